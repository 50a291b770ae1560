import PyProof.Rows.All
import HandS.Base
import HandS.Call
import HandS.List
import HandS.Comp
import HandS.Exc
import HandS.ExcOwn
import HandS.Defaults
import HandS.HeadHook1
import HandS.Lambda
import HandS.Iter
import HandS.WordsExc
import HandS.CallSlots
import HandS.More
import HandS.Star
import HandS.TupAny
import HandS.IsInst
import HandS.Wide
import HandS.SortInts
import HandS.Text
import HandS.Deep
import HandS.Style
import HandS.Codes
import HandS.FStr
import HandS.RaiseMore
import KE.SortData
import HandS.SetFor
import HandS.TupSets
import HandS.Strs
import HandS.HeadEnd
import PyProof.ReprRoads
import HandS.ClsMeth
import HandS.Property
import HandS.HeadNt
import HandS.Head2
import HandS.Steps
import HandS.StrMore
import HandS.TryMany
import PyProof.ExcBaseAll.ValueError
import HandS.EndTab
import HandS.HotCalls
import PyProof.TupleIter
import HandS.Set
import PyProof.Seq
import PyProof.Walks
import HandS.OwnEq
import PyProof.ReprNest
import HandS.ExcCtx
import HandS.SuiteRaise
import HandS.ReplaceLit
import PyProof.Rows.StrStep
import HandS.Dict
import HandS.HeadHook3
import KE.KSuper
import HandS.Flt
import HandS.SortKw
import KE.DataMinMax
import HandS.DictTup
import PyProof.InstEq
import HandS.Conv
import HandS.Zip
import KE.GoesZip
import KE.GoesMore
import HandS.TupMul
import HandS.GenList
import KE.KDictZip
import PyProof.RulesMatch
import PyProof.StrOps
import HandS.NoneIn
import HandS.ListItems
import KE.KIndexOf
import PyProof.StrLawsRepr
import PySem.Challenge.RW_countalike_k61_texts_of_questions
set_option Elab.async false
set_option linter.all false
set_option maxRecDepth 100000
namespace Cq
open PySem PySem.Spec PyProof.Rows L2
abbrev Frag := PySem.W.Frag

inductive D where
  | non | bl (b : Bool) | int (i : Int) | str (x : Str)
  | tup (xs : List D) | lst (xs : List D)
  | dik (kvs : List (Key × D)) | dit (kvs : List (List Key × D))
  | ins (c : Nat) (fs : List (Nat × D))
  | scr (ns : List Int) | glo (c : Nat)
  | ktp (ks : List Key)
  | lam (a : Addr) (F0 : Hp) (r : Option Nat) (d : D)
  | ixt (ns : List Int)
  deriving Inhabited
/-- a slot: unset; a frozen datum; a datum lent for reading; a cell of one's own; a cell lent for writing -/
inductive Sl where
  | un | im (d : D) | ro (d : D) | ow (d : D) | mb (d : D)
abbrev Gm := List Sl
inductive Res (α : Type) where
  | ok (a : α) (g : Gm) | ex (c : Nat) (g : Gm)
abbrev M (α : Type) := Gm → Option (Res α)
def M.bind {α β : Type} (m : M α) (f : α → M β) : M β := fun g => match m g with
  | none => none
  | some (.ok a g) => f a g
  | some (.ex c g) => some (.ex c g)
def Sl.cell : Sl → Option D
  | .ow d => some d
  | .mb d => some d
  | _ => none
def cname : Nat → Str
  | 0 => "Table" | 1 => "Question" | 2 => "Book" | 3 => "Mirrored" | 4 => "Capped" | 5 => "CappedMirror" | 6 => "Trying"
  | 10 => "CountError" | 11 => "NoRows" | 12 => "NoKey" | 13 => "NoNumber" | 14 => "NoText" | 15 => "NoTable" | 16 => "NoAtoms" | 17 => "NoQuestion" | 18 => "TooMuch" | 19 => "TooOften" | 20 => "NotMirrored" | 21 => "NothingDone"
  | _ => "?"
def fname : Nat → Str
  | 0 => "kept" | 1 => "state" | 2 => "past" | 3 => "limit" | 4 => "book" | _ => "?"
def ca (K : Frag) (c : Nat) : Addr := He.ga K (cname c)

def Sub (F H : Hp) : Prop := ∀ a o, F a = some o → H a = some o
mutual
inductive Rep (K : Frag) (F : Hp) : V → D → Prop
  | non : Rep K F .non .non
  | bl (b : Bool) : Rep K F (.bl b) (.bl b)
  | int (i : Int) : Rep K F (.int i) (.int i)
  | str (x : Str) : Rep K F (.str x) (.str x)
  | tup {a : Addr} {vs : List V} {ds : List D} : SqT K F a vs → Reps K F vs ds → Rep K F (.ref a) (.tup ds)
  | lst {a : Addr} {vs : List V} {ds : List D} : F a = some (.lst vs) → Reps K F vs ds → Rep K F (.ref a) (.lst ds)
  | scr {a : Addr} {ns : List Int} : SqL K F a (ns.map V.int) → Rep K F (.ref a) (.scr ns)
  | glo (c : Nat) : Rep K F (.ref (ca K c)) (.glo c)
  | dik {a : Addr} {kv : List (Key × V)} {ds : List (Key × D)} : F a = some (.dK kv) → kv.map (·.1) = ds.map (·.1) → Reps K F (kv.map (·.2)) (ds.map (·.2)) → Rep K F (.ref a) (.dik ds)
  | dit {a : Addr} {kv : List (List Key × V)} {ds : List (List Key × D)} : F a = some (.dT kv) → kv.map (·.1) = ds.map (·.1) → Reps K F (kv.map (·.2)) (ds.map (·.2)) → Rep K F (.ref a) (.dit ds)
  | ins {a dx : Addr} {fv : List (Str × V)} {c : Nat} {fs : List (Nat × D)} : F a = some (.ins (ca K c) dx fv) → F dx = some (.own a) → fv.map (·.1) = fs.map (fun p => fname p.1) → Reps K F (fv.map (·.2)) (fs.map (·.2)) → Rep K F (.ref a) (.ins c fs)
  | ktp {a : Addr} {ks : List Key} : F a = some (.tup (ks.map kV)) → Rep K F (.ref a) (.ktp ks)
  | lam {a : Addr} {F0 : Hp} {r : Option Nat} {d : D} : Sub F0 F → Rep K F (.ref a) (.lam a F0 r d)
  | ixt {a : Addr} {o : Obj} {ns : List Int} : F a = some (.frz o (.tup (ns.map V.int))) → o.cls = .type "tuple" → o.dict = none → Rep K F (.ref a) (.ixt ns)
inductive Reps (K : Frag) (F : Hp) : List V → List D → Prop
  | nil : Reps K F [] []
  | cons {v : V} {d : D} {vs : List V} {ds : List D} : Rep K F v d → Reps K F vs ds → Reps K F (v :: vs) (d :: ds)
end
theorem Sub.trans {F G H : Hp} (h : Sub F G) (k : Sub G H) : Sub F H := fun a o e => k a o (h a o e)
theorem Sub.rd {F H : Hp} (h : Sub F H) {a : Addr} {u : HO} (r : Rd F a u) : Rd H a u := by
  rcases r with r | ⟨o, r⟩
  · exact .inl (h _ _ r)
  · exact .inr ⟨o, h _ _ r⟩
theorem Sub.tup {K : Frag} {F H : Hp} (h : Sub F H) {a : Addr} {xs : List V} (r : SqT K F a xs) : SqT K H a xs := by
  rcases r with r | r
  · exact .inl (h.rd r)
  · exact .inr r
theorem Reps.length {K : Frag} {F : Hp} : ∀ {vs : List V} {ds : List D}, Reps K F vs ds → vs.length = ds.length
  | _, _, .nil => rfl
  | _, _, .cons _ t => congrArg (· + 1) t.length
theorem Reps.getD {K : Frag} {F : Hp} : ∀ {vs : List V} {ds : List D} {i : Nat} {v : V}, Reps K F vs ds → vs[i]? = some v → ∃ d, ds[i]? = some d ∧ Rep K F v d
  | _, _, _, _, .nil, e => by simp at e
  | _, _, 0, _, .cons r _, e => by simp at e; subst e; exact ⟨_, rfl, r⟩
  | _, _, i + 1, v, .cons _ t, e => by
    obtain ⟨d, h1, h2⟩ := Reps.getD (i := i) (v := v) t (by simpa using e)
    exact ⟨d, by simpa using h1, h2⟩
theorem fname_past : ∀ {n : Nat}, fname n = ("past" : Str) → n = 2 := fun {n} h => by
  match n, h with
  | 0, h => exact absurd h (by decide)
  | 1, h => exact absurd h (by decide)
  | 2, _ => rfl
  | 3, h => exact absurd h (by decide)
  | 4, h => exact absurd h (by decide)
  | n + 5, h => exact absurd h (by show ("?" : Str) ≠ "past"; decide)
/-- the fields of an instance: frozen things, but for the field 2, a list of its own -/
inductive FReps (K : Frag) (F H : Hp) : List (Str × V) → List (Nat × D) → Prop
  | nil : FReps K F H [] []
  | cons {n : Nat} {v : V} {d : D} {fv : List (Str × V)} {fs : List (Nat × D)} : n ≠ 2 → Rep K F v d → FReps K F H fv fs → FReps K F H ((fname n, v) :: fv) ((n, d) :: fs)
  | past {p : Addr} {ws : List V} {ps : List D} {fv : List (Str × V)} {fs : List (Nat × D)} : H p = some (.lst ws) → Reps K F ws ps → FReps K F H fv fs → FReps K F H (("past", V.ref p) :: fv) ((2, .lst ps) :: fs)
theorem FReps.foot {K : Frag} {F H : Hp} {x : Addr} : ∀ {fv : List (Str × V)} {fs : List (Nat × D)}, FReps K F H fv fs → (("past" : Str), V.ref x) ∈ fv → ∃ ws, H x = some (.lst ws)
  | _, _, .nil, h => by simp at h
  | _, _, .cons n _ t, h => by
    rcases List.mem_cons.mp h with h | h
    · exact absurd (fname_past (Prod.mk.inj h).1.symm) n
    · exact t.foot h
  | _, _, .past e _ t, h => by
    rcases List.mem_cons.mp h with h | h
    · cases (Prod.mk.inj h).2; exact ⟨_, e⟩
    · exact t.foot h
theorem FReps.names {K : Frag} {F H : Hp} : ∀ {fv : List (Str × V)} {fs : List (Nat × D)}, FReps K F H fv fs → fv.map (·.1) = fs.map (fun p => fname p.1)
  | _, _, .nil => rfl
  | _, _, .cons _ _ t => by simp only [List.map_cons, t.names]
  | _, _, .past _ _ t => by simp only [List.map_cons, t.names]; rfl
/-- what stands at an address that may change: its own object holds frozen things alone -/
def Cell (K : Frag) (F H : Hp) (a : Addr) : D → Prop
  | .lst ds => ∃ vs, H a = some (.lst vs) ∧ Reps K F vs ds
  | .dik ds => ∃ kv : List (Key × V), H a = some (.dK kv) ∧ kv.map (·.1) = ds.map (·.1) ∧ Reps K F (kv.map (·.2)) (ds.map (·.2))
  | .dit ds => ∃ kv : List (List Key × V), H a = some (.dT kv) ∧ kv.map (·.1) = ds.map (·.1) ∧ Reps K F (kv.map (·.2)) (ds.map (·.2))
  | .ins c fs => ∃ dx fv, H a = some (.ins (ca K c) dx fv) ∧ H dx = some (.own a) ∧ fv.map (·.1) = fs.map (fun p => fname p.1) ∧ FReps K F H fv fs
  | _ => False
/-- the addresses of a cell -/
def Foot (H : Hp) (a x : Addr) : Prop := x = a ∨ ∃ C dx fv, H a = some (.ins C dx fv) ∧ (x = dx ∨ (("past" : Str), V.ref x) ∈ fv)
theorem Cell.at {K : Frag} {F H : Hp} {a : Addr} {d : D} (h : Cell K F H a d) : ∃ o, H a = some o := by
  cases d with
  | lst ds => obtain ⟨vs, e, r⟩ := h; exact ⟨_, e⟩
  | dik ds => obtain ⟨vs, e, m, r⟩ := h; exact ⟨_, e⟩
  | dit ds => obtain ⟨vs, e, m, r⟩ := h; exact ⟨_, e⟩
  | ins c fs => obtain ⟨dx, fv, e, e', m, r⟩ := h; exact ⟨_, e⟩
  | _ => exact h.elim
theorem Cell.foot {K : Frag} {F H : Hp} {a : Addr} {d : D} (h : Cell K F H a d) {x : Addr} (f : Foot H a x) : ∃ o, H x = some o := by
  rcases f with rfl | ⟨C, dx0, fv, e, q⟩
  · exact h.at
  · cases d with
    | ins c fs =>
      obtain ⟨dx, fv', e1, e', m, r⟩ := h; rw [e1] at e; cases e
      rcases q with rfl | q
      · exact ⟨_, e'⟩
      · obtain ⟨ws, h⟩ := r.foot q; exact ⟨_, h⟩
    | lst ds => obtain ⟨vs, e1, r⟩ := h; rw [e1] at e; cases e
    | dik ds => obtain ⟨vs, e1, r⟩ := h; rw [e1] at e; cases e
    | dit ds => obtain ⟨vs, e1, r⟩ := h; rw [e1] at e; cases e
    | _ => exact h.elim
inductive TEx : HO → Prop
  | tup (xs : List V) : TEx (.tup xs)
  | ext (φ : Heap → Prop) : TEx (.ext φ)
def NT (o : HO) : Prop := ∀ _ : Unit, TEx o → False
theorem Cell.nt0 {K : Frag} {F H : Hp} {a : Addr} {d : D} (h : Cell K F H a d) {x : Addr} (f : Foot H a x) {o : HO} (e : H x = some o) : ∀ xs, o ≠ .tup xs := fun xs z => by
  subst z
  rcases f with rfl | ⟨C, dx0, fv0, e2, q2⟩
  · cases d with
    | lst ds => obtain ⟨vs, e1, r⟩ := h; rw [e1] at e; cases e
    | dik ds => obtain ⟨vs, e1, r⟩ := h; rw [e1] at e; cases e
    | dit ds => obtain ⟨vs, e1, r⟩ := h; rw [e1] at e; cases e
    | ins c fs => obtain ⟨dx, fv, e1, r⟩ := h; rw [e1] at e; cases e
    | _ => exact h.elim
  · cases d with
    | lst ds => obtain ⟨vs, e1, r⟩ := h; rw [e1] at e2; cases e2
    | dik ds => obtain ⟨vs, e1, r⟩ := h; rw [e1] at e2; cases e2
    | dit ds => obtain ⟨vs, e1, r⟩ := h; rw [e1] at e2; cases e2
    | ins c fs =>
      obtain ⟨dx, fv, e1, e3, m, r⟩ := h; rw [e1] at e2; cases e2
      rcases q2 with rfl | q2
      · rw [e3] at e; cases e
      · obtain ⟨ws, h⟩ := r.foot q2; rw [h] at e; cases e
    | _ => exact h.elim
theorem Cell.dt {K : Frag} {F H : Hp} {a : Addr} {d : D} (h : Cell K F H a d) {x : Addr} (f : Foot H a x) {o : HO} (e : H x = some o) : (∀ ps, o ≠ .tbl ps) ∧ ∀ φ, o ≠ .ext φ := by
  rcases f with rfl | ⟨C, dx0, fv0, e2, q2⟩
  · cases d with
    | lst ds => obtain ⟨vs, e1, r⟩ := h; rw [e1] at e; cases e; exact ⟨fun _ z => (nomatch z), fun _ z => (nomatch z)⟩
    | dik ds => obtain ⟨vs, e1, r⟩ := h; rw [e1] at e; cases e; exact ⟨fun _ z => (nomatch z), fun _ z => (nomatch z)⟩
    | dit ds => obtain ⟨vs, e1, r⟩ := h; rw [e1] at e; cases e; exact ⟨fun _ z => (nomatch z), fun _ z => (nomatch z)⟩
    | ins c fs => obtain ⟨dx, fv, e1, r⟩ := h; rw [e1] at e; cases e; exact ⟨fun _ z => (nomatch z), fun _ z => (nomatch z)⟩
    | _ => exact h.elim
  · cases d with
    | lst ds => obtain ⟨vs, e1, r⟩ := h; rw [e1] at e2; cases e2
    | dik ds => obtain ⟨vs, e1, r⟩ := h; rw [e1] at e2; cases e2
    | dit ds => obtain ⟨vs, e1, r⟩ := h; rw [e1] at e2; cases e2
    | ins c fs =>
      obtain ⟨dx, fv, e1, e3, m, r⟩ := h; rw [e1] at e2; cases e2
      rcases q2 with rfl | q2
      · rw [e3] at e; cases e; exact ⟨fun _ z => (nomatch z), fun _ z => (nomatch z)⟩
      · obtain ⟨ws, h⟩ := r.foot q2; rw [h] at e; cases e; exact ⟨fun _ z => (nomatch z), fun _ z => (nomatch z)⟩
    | _ => exact h.elim
theorem Cell.nt {K : Frag} {F H : Hp} {a : Addr} {d : D} (h : Cell K F H a d) {x : Addr} (f : Foot H a x) {o : HO} (e : H x = some o) : NT o := fun _ z => by
  cases z with
  | tup xs => exact h.nt0 f e xs rfl
  | ext φ => exact (h.dt f e).2 φ rfl
/-- what may be read now -/
def RoV (K : Frag) (F H : Hp) (v : V) (d : D) : Prop := Rep K F v d ∨ ∃ a, v = .ref a ∧ Cell K F H a d ∧ ∀ x, Foot H a x → x = a

def Own (g : Gm) (σ : L2.St) (H : Hp) (x : Addr) : Prop := ∃ (i : Nat) (d : D) (a : Addr), (g[i]?).bind Sl.cell = some d ∧ σ[i]? = some (some (V.ref a)) ∧ Foot H a x
def SlotOk (K : Frag) (F H : Hp) (so : Option (Option V)) : Sl → Prop
  | .un => True
  | .im d => ∃ v, so = some (some v) ∧ Rep K F v d
  | .ro d => ∃ v, so = some (some v) ∧ RoV K F H v d
  | .ow d => ∃ a, so = some (some (.ref a)) ∧ Cell K F H a d ∧ ∀ x, Foot H a x → F x = none
  | .mb d => ∃ a, so = some (some (.ref a)) ∧ Cell K F H a d ∧ ∀ x, Foot H a x → F x = none
def NB (o : HO) : Prop := ∀ ps, o ≠ .tbl ps
def lamQ (P : Addr) (o : Obj) : Option Str := match o.data with
  | .fields vs => (match vs[11]?, vs[1]? with
    | some (Value.ref p), some (Value.str q _) => if p = P then some (q ++ ".<locals>.<lambda>") else none
    | _, _ => none)
  | _ => none
def lamN (K : Frag) (P : Addr) : Str := ((K.map (·.2)).findSome? (lamQ P)).getD ""
def tT (K : Frag) : List Addr := match K.getLast? with
  | some (_, o) => (match o.cls, o.data with
    | .str q _, .fields vs => if q = ("tables" : Str) then vs.toList.filterMap (fun v => match v with | .ref p => some p | _ => none) else []
    | _, _ => [])
  | none => []
def tTs (K : Frag) : List (Addr × Str) := (tT K).map fun P => (P, lamN K P)
structure TB (K : Frag) (F H : Hp) : Prop where
  at_ : LamX.Tabs (tTs K) H
  nf : ∀ x ps, F x ≠ some (.tbl ps)
/-- the state: F what is frozen, g the slots' data -/
structure Sta (K : Frag) (F : Hp) (g : Gm) (σ : L2.St) (H : Hp) : Prop where
  sub : Sub F H
  len : g.length = σ.length
  slot : ∀ (i : Nat) (s : Sl), g[i]? = some s → SlotOk K F H σ[i]? s
  inj : ∀ (i j : Nat) (d e : D) (a b x : Addr), i ≠ j → (g[i]?).bind Sl.cell = some d → (g[j]?).bind Sl.cell = some e → σ[i]? = some (some (V.ref a)) → σ[j]? = some (some (V.ref b)) → Foot H a x → Foot H b x → False
  ro : ∀ (i : Nat) (d : D) (a : Addr), g[i]? = some (Sl.ro d) → σ[i]? = some (some (V.ref a)) → Rep K F (.ref a) d ∨ ¬ Own g σ H a
  tb : TB K F H
structure Stp (F H : Hp) (g : Gm) (σ : L2.St) (F' H' : Hp) (g' : Gm) (σ' : L2.St) : Prop where
  fg : Sub F F'
  st : ∀ (x : Addr), H x ≠ none → H' x ≠ none
  fr : ∀ (x : Addr) (o : HO), H x = some o → NB o → (NT o → F x = none) → ¬ Own g σ H x → H' x = some o ∧ (NT o → F' x = none)
  own : ∀ (x : Addr), Own g' σ' H' x → Own g σ H x ∨ H x = none
  kro : ∀ (i : Nat) (d : D), g'[i]? = some (Sl.ro d) → g[i]? = some (Sl.ro d) ∧ σ'[i]? = σ[i]?
  kmb : ∀ (i : Nat) (d : D), g'[i]? = some (Sl.mb d) → (∃ e, g[i]? = some (Sl.mb e)) ∧ σ'[i]? = σ[i]?
  ki : ∀ (b C dx : Addr) (fv : List (Str × V)), H b = some (.ins C dx fv) → ∃ fv', H' b = some (.ins C dx fv') ∧ ∀ x, (("past" : Str), V.ref x) ∈ fv → (("past" : Str), V.ref x) ∈ fv'
theorem Stp.trans {F H F1 H1 F2 H2 : Hp} {g g1 g2 : Gm} {σ σ1 σ2 : L2.St} (a : Stp F H g σ F1 H1 g1 σ1) (b : Stp F1 H1 g1 σ1 F2 H2 g2 σ2) : Stp F H g σ F2 H2 g2 σ2 := by
  refine ⟨a.fg.trans b.fg, fun x h => b.st x (a.st x h), fun x o h1 nb h2 h3 => ?_, fun x h => ?_, fun i d h => ?_, fun i d h => ?_, fun c C dx fv h => let ⟨_, h1, k1⟩ := a.ki c C dx fv h; let ⟨w, h2, k2⟩ := b.ki c C dx _ h1; ⟨w, h2, fun x q => k2 x (k1 x q)⟩⟩
  · obtain ⟨e1, e2⟩ := a.fr x o h1 nb h2 h3
    refine b.fr x o e1 nb e2 fun q => ?_
    rcases a.own x q with q | q
    · exact h3 q
    · rw [h1] at q; cases q
  · rcases b.own x h with q | q
    · exact a.own x q
    · exact .inr (Classical.byContradiction fun h0 => a.st x h0 q)
  · obtain ⟨h1, h2⟩ := b.kro i d h
    obtain ⟨h3, h4⟩ := a.kro i d h1
    exact ⟨h3, h2.trans h4⟩
  · obtain ⟨⟨e, h1⟩, h2⟩ := b.kmb i d h
    obtain ⟨h3, h4⟩ := a.kmb i e h1
    exact ⟨h3, h2.trans h4⟩
/-- pure making: nothing that stood changes -/
structure Al (F H F' H' : Hp) : Prop where
  fg : Sub F F'
  hg : Sub H H'
  sub : Sub F' H'
  new : ∀ (x : Addr) (o : HO), H x = some o → NT o → F x = none → F' x = none
  tb : ∀ (K : Frag), TB K F H → TB K F' H'
theorem Al.trans {F H F1 H1 F2 H2 : Hp} (a : Al F H F1 H1) (b : Al F1 H1 F2 H2) : Al F H F2 H2 := ⟨a.fg.trans b.fg, a.hg.trans b.hg, b.sub, fun x o h1 nt h2 => b.new x o (a.hg x o h1) nt (a.new x o h1 nt h2), fun K t => b.tb K (a.tb K t)⟩
theorem SlotOk.cell {K : Frag} {F H : Hp} {so : Option (Option V)} {s : Sl} {d : D} (h : SlotOk K F H so s) (c : s.cell = some d) : ∃ a, so = some (some (V.ref a)) ∧ Cell K F H a d ∧ ∀ x, Foot H a x → F x = none := by
  cases s with
  | ow e => cases c; exact h
  | mb e => cases c; exact h
  | _ => cases c
theorem Sta.cell {K : Frag} {F H : Hp} {g : Gm} {σ : L2.St} (S : Sta K F g σ H) {i : Nat} {d : D} (c : (g[i]?).bind Sl.cell = some d) : ∃ a, σ[i]? = some (some (V.ref a)) ∧ Cell K F H a d ∧ ∀ x, Foot H a x → F x = none := by
  cases e : g[i]? with
  | none => rw [e] at c; cases c
  | some s => rw [e] at c; exact (S.slot i s e).cell c
def exv (K : Frag) (c : Nat) : Value := .ref (ca K c)
inductive Hd where
  | nm (i : Nat) | va (d : D)
def HdR (K : Frag) (F : Hp) (σ : L2.St) : Hd → V → Prop
  | .nm i, v => σ[i]? = some (some v)
  | .va d, v => Rep K F v d
inductive HdsR (K : Frag) (F : Hp) (σ : L2.St) : List Hd → List V → Prop
  | nil : HdsR K F σ [] []
  | cons {h : Hd} {v : V} {hs : List Hd} {vs : List V} : HdR K F σ h v → HdsR K F σ hs vs → HdsR K F σ (h :: hs) (v :: vs)
def D.flat : D → Bool
  | .ins _ _ => false
  | _ => true
/-- what a handle reads: instances that are cells are not read so -/
def Hd.rd (g : Gm) (h : Hd) : Option D := match h with
  | .va d => some d
  | .nm i => match g[i]? with
    | some (.im d) => some d
    | some (.ro d) => some d
    | some (.ow d) => if d.flat then some d else none
    | some (.mb d) => if d.flat then some d else none
    | _ => none
open Classical in
noncomputable def frz (F H : Hp) (a : Addr) : Hp := fun x => if Foot H a x then H x else F x
end Cq

set_option Elab.async false
set_option linter.all false
set_option maxRecDepth 100000
set_option Elab.async false
set_option linter.all false
set_option maxRecDepth 100000
set_option Elab.async false
set_option linter.all false
set_option maxRecDepth 100000
set_option Elab.async false
set_option linter.all false
set_option maxRecDepth 100000
set_option Elab.async false
set_option linter.all false
set_option maxRecDepth 100000
set_option Elab.async false
set_option linter.all false
set_option maxRecDepth 100000
set_option Elab.async false
set_option linter.all false
set_option maxRecDepth 100000
namespace Cq
open PySem PySem.Spec PyProof.Rows L2
section
variable {K : Frag} {σ : L2.St} {F H F' H' : Hp} {g g' : Gm}
theorem ext_get {n j : Nat} {s : Sl} (h : (g ++ List.replicate n .un)[j]? = some s) : (g[j]? = some s) ∨ (s = .un ∧ g[j]? = none) := by
  by_cases l : j < g.length
  · rw [List.getElem?_append_left l] at h; exact .inl h
  · rw [List.getElem?_append_right (by omega), List.getElem?_replicate] at h
    split at h
    · cases h; exact .inr ⟨rfl, List.getElem?_eq_none (by omega)⟩
    · cases h
theorem ext_cell {n j : Nat} {d : D} (h : ((g ++ List.replicate n .un)[j]?).bind Sl.cell = some d) : (g[j]?).bind Sl.cell = some d := by
  cases q : (g ++ List.replicate n .un)[j]? with
  | none => rw [q] at h; cases h
  | some s =>
    rw [q] at h
    rcases ext_get q with e | ⟨e, _⟩
    · rw [e]; exact h
    · subst e; cases h
theorem sext {n k j : Nat} {d : Sl} (l : g.length = σ.length) (h : g[j]? = some d) : (σ ++ List.replicate k none)[j]? = σ[j]? := by
  have : j < σ.length := by rw [← l]; exact (List.getElem?_eq_some_iff.mp h).1
  exact List.getElem?_append_left this
theorem sext' {k j : Nat} {d : D} (l : g.length = σ.length) (h : (g[j]?).bind Sl.cell = some d) : (σ ++ List.replicate k none)[j]? = σ[j]? := by
  cases q : g[j]? with
  | none => rw [q] at h; cases h
  | some s => exact sext (n := 0) l q
theorem own_ext {n k : Nat} (S : Sta K F g σ H) {x : Addr} (o : Own (g ++ List.replicate n .un) (σ ++ List.replicate k none) H x) : Own g σ H x := by
  obtain ⟨i, d, a, c, e, f⟩ := o
  have c' := ext_cell c
  rw [sext' S.len c'] at e
  exact ⟨i, d, a, c', e, f⟩
theorem Sta.ext {n : Nat} (S : Sta K F g σ H) : Sta K F (g ++ List.replicate n .un) (σ ++ List.replicate n none) H := by
  refine ⟨S.sub, by simp [S.len], fun j s e => ?_, fun i j d e a b x ij c1 c2 e1 e2 => ?_, fun i d a e1 e2 => ?_, S.tb⟩
  · rcases ext_get e with q | ⟨q, _⟩
    · rw [sext (n := 0) S.len q]; exact S.slot j s q
    · subst q; trivial
  · have c1' := ext_cell c1
    have c2' := ext_cell c2
    rw [sext' S.len c1'] at e1
    rw [sext' S.len c2'] at e2
    exact S.inj i j d e a b x ij c1' c2' e1 e2
  · rcases ext_get e1 with q | ⟨q, _⟩
    · rw [sext (n := 0) S.len q] at e2
      exact (S.ro i d a q e2).imp id fun r o => r (own_ext S o)
    · cases q
end
end Cq

set_option Elab.async false
set_option linter.all false
set_option maxRecDepth 100000
set_option Elab.async false
set_option linter.all false
set_option maxRecDepth 100000
set_option Elab.async false
set_option linter.all false
set_option maxRecDepth 100000
namespace Cq
open PySem PySem.Spec PyProof.Rows L2
theorem RoV.int {K : Frag} {F H : Hp} {v : V} {i : Int} (r : RoV K F H v (.int i)) : v = .int i := by
  rcases r with r | ⟨a, rfl, c, _⟩
  · cases r; rfl
  · exact c.elim
theorem RoV.bl {K : Frag} {F H : Hp} {v : V} {i : Bool} (r : RoV K F H v (.bl i)) : v = .bl i := by
  rcases r with r | ⟨a, rfl, c, _⟩
  · cases r; rfl
  · exact c.elim
theorem RoV.non {K : Frag} {F H : Hp} {v : V} (r : RoV K F H v .non) : v = .non := by
  rcases r with r | ⟨a, rfl, c, _⟩
  · cases r; rfl
  · exact c.elim
theorem RoV.str {K : Frag} {F H : Hp} {v : V} {i : Str} (r : RoV K F H v (.str i)) : v = .str i := by
  rcases r with r | ⟨a, rfl, c, _⟩
  · cases r; rfl
  · exact c.elim
theorem RoV.tup {K : Frag} {F H : Hp} {v : V} {ds : List D} (s : Sub F H) (r : RoV K F H v (.tup ds)) : ∃ a vs, v = .ref a ∧ SqT K H a vs ∧ Reps K F vs ds ∧ Rep K F v (.tup ds) := by
  rcases r with r | ⟨a, rfl, c, _⟩
  · cases r with
    | tup h r => exact ⟨_, _, rfl, s.tup h, r, .tup h r⟩
  · exact c.elim
theorem RoV.lst {K : Frag} {F H : Hp} {v : V} {ds : List D} (s : Sub F H) (r : RoV K F H v (.lst ds)) : ∃ a vs, v = .ref a ∧ H a = some (.lst vs) ∧ Reps K F vs ds := by
  rcases r with r | ⟨a, rfl, c, _⟩
  · cases r with
    | lst h r => exact ⟨_, _, rfl, s _ _ h, r⟩
  · obtain ⟨vs, h, r⟩ := c; exact ⟨_, _, rfl, h, r⟩
end Cq

set_option Elab.async false
set_option linter.all false
set_option maxRecDepth 100000
set_option Elab.async false
set_option linter.all false
set_option maxRecDepth 100000
set_option Elab.async false
set_option linter.all false
set_option maxRecDepth 100000
namespace Cq
open PySem PySem.Spec PyProof.Rows L2
def tupB : PyData → Bool
  | .tuple (_ :: _) => true
  | _ => false
section
variable {X : Cx} {W : WX} {pos : Pos} {σ : L2.St} {F H F0 H0 : Hp} {g g0 : Gm}
variable {o e : Expr} {es : List Expr} {name : Str} {apos cpos : Pos} {T bid : String} {f : D → List D → Option D} {mo : M Hd} {ma : M (List Hd)}
inductive Ty where
  | int | bool | str | tuple | list | dict | cls (c : Nat)
/-- which classes stand above one another -/
def subCls : Nat → Nat → Bool
  | 0, 0 => true | 1, 1 => true | 2, 2 => true | 3, 3 => true | 4, 4 => true | 5, 5 => true | 6, 6 => true
  | 3, 2 => true | 4, 2 => true | 5, 2 => true | 5, 3 => true | 5, 4 => true
  | _, _ => false
def isTy : Ty → D → Bool
  | .int, .int _ => true
  | .int, .bl _ => true
  | .bool, .bl _ => true
  | .str, .str _ => true
  | .tuple, .tup _ => true
  | .list, .lst _ => true
  | .dict, .dik _ => true
  | .dict, .dit _ => true
  | .cls c, .ins c' _ => subCls c' c
  | _, _ => false
def Ty.val (K : Frag) : Ty → Value
  | .int => .type "int" | .bool => .type "bool" | .str => .type "str" | .tuple => .type "tuple" | .list => .type "list" | .dict => .type "dict"
  | .cls c => .ref (ca K c)
def Ty.v (K : Frag) : Ty → V
  | .int => .ty "int" | .bool => .ty "bool" | .str => .ty "str" | .tuple => .ty "tuple" | .list => .ty "list" | .dict => .ty "dict"
  | .cls c => .ref (ca K c)
end
end Cq

set_option Elab.async false
set_option linter.all false
set_option maxRecDepth 100000
set_option Elab.async false
set_option linter.all false
set_option maxRecDepth 100000
set_option Elab.async false
set_option linter.all false
set_option maxRecDepth 100000
set_option Elab.async false
set_option linter.all false
set_option maxRecDepth 100000
set_option Elab.async false
set_option linter.all false
set_option maxRecDepth 100000
namespace Cq
open PySem PySem.Spec PyProof.Rows L2
def FnG (P : Program) (w : World) (K : Frag) (mg : Str → Option Value) (base : Heap) (CX : CXT) (k : Nat) (f : Addr) (sp : Sp) : Prop :=
  ∀ (A : Around) (outer : List PySem.Env) (s : Shared) (H : Hp) (us : List Value) (vs : List V) (Q : VK) (E : XK), A.guards = some [] → Room k A → Env0 P w K mg base A outer s H → Vals vs us → sp vs H Q E →
    codeAny (model P w) A (.call (.ref f) ⟨us, []⟩) (CR CX outer P w H s Q E) s
theorem FnG.of {P : Program} {w : World} {K : Frag} {mg : Str → Option Value} {base : Heap} {CX : CXT} {k : Nat} {f : Addr} {sp : Sp} (F : FnR P w K mg base CX k f sp) : FnG P w K mg base CX k f sp := fun A outer s H us vs Q E _ => F A outer s H us vs Q E
end Cq
set_option Elab.async false
set_option linter.all false
set_option maxRecDepth 100000
set_option Elab.async false
set_option linter.all false
set_option maxRecDepth 100000
namespace Cq
open PySem PySem.Spec PyProof.Rows L2
section
variable {X : Cx} {W : WX} {pos p apos : Pos} {σ : L2.St} {F H F0 H0 : Hp} {g g0 : Gm} {e o : Expr} {es : List Expr} {ma : M (List Hd)} {mo : M Hd} {x : Str} {u : Value}
theorem HdsR.va {K : Frag} : ∀ {vs : List V} {ds : List D}, Reps K F vs ds → HdsR K F σ (ds.map .va) vs
  | _, _, .nil => .nil
  | _, _, .cons r t => .cons r (HdsR.va t)
end
end Cq

set_option Elab.async false
set_option linter.all false
set_option maxRecDepth 100000
namespace Cq
open PySem PySem.Spec PyProof.Rows L2
theorem fname_inj : ∀ i j : Nat, i < 5 → j < 5 → fname i = fname j → i = j := by
  intro i j hi hj h
  match i, j, hi, hj with
  | 0, 0, _, _ => rfl
  | 1, 1, _, _ => rfl
  | 2, 2, _, _ => rfl
  | 3, 3, _, _ => rfl
  | 4, 4, _, _ => rfl
  | 0, 1, _, _ => exact absurd h (by decide)
  | 0, 2, _, _ => exact absurd h (by decide)
  | 0, 3, _, _ => exact absurd h (by decide)
  | 0, 4, _, _ => exact absurd h (by decide)
  | 1, 0, _, _ => exact absurd h (by decide)
  | 1, 2, _, _ => exact absurd h (by decide)
  | 1, 3, _, _ => exact absurd h (by decide)
  | 1, 4, _, _ => exact absurd h (by decide)
  | 2, 0, _, _ => exact absurd h (by decide)
  | 2, 1, _, _ => exact absurd h (by decide)
  | 2, 3, _, _ => exact absurd h (by decide)
  | 2, 4, _, _ => exact absurd h (by decide)
  | 3, 0, _, _ => exact absurd h (by decide)
  | 3, 1, _, _ => exact absurd h (by decide)
  | 3, 2, _, _ => exact absurd h (by decide)
  | 3, 4, _, _ => exact absurd h (by decide)
  | 4, 0, _, _ => exact absurd h (by decide)
  | 4, 1, _, _ => exact absurd h (by decide)
  | 4, 2, _, _ => exact absurd h (by decide)
  | 4, 3, _, _ => exact absurd h (by decide)
  | i + 5, _, hi, _ => omega
  | _, j + 5, _, hj => omega
def okF (fs : List (Nat × D)) : Bool := fs.all fun p => decide (p.1 < 5)
section
variable {K : Frag} {F H : Hp}
theorem okF_cons {p : Nat × D} {fs : List (Nat × D)} (h : okF (p :: fs) = true) : p.1 < 5 ∧ okF fs = true := by
  unfold okF at h
  simp only [List.all_cons, Bool.and_eq_true, decide_eq_true_eq] at h
  exact h
theorem look_rep {n : Nat} {d : D} (hn : n < 5) : ∀ {fv : List (Str × V)} {fs : List (Nat × D)}, okF fs = true → fv.map (·.1) = fs.map (fun p => fname p.1) → Reps K F (fv.map (·.2)) (fs.map (·.2)) → fs.lookup n = some d → ∃ v, fv.lookup (fname n) = some v ∧ Rep K F v d
  | [], [], _, _, _, e => by cases e
  | [], _ :: _, _, m, _, _ => by cases m
  | _ :: _, [], _, m, _, _ => by cases m
  | (k, v) :: fv, (m, e) :: fs, ok, hm, r, h => by
    obtain ⟨o1, o2⟩ := okF_cons ok
    simp only [List.map_cons, List.cons.injEq] at hm
    obtain ⟨h1, h2⟩ := hm
    cases r with
    | cons r rs =>
      by_cases c : n = m
      · subst c
        simp only [List.lookup_cons, beq_self_eq_true] at h
        cases h
        exact ⟨v, by simp only [List.lookup_cons]; rw [h1]; simp, r⟩
      · have c' : (n == m) = false := by simpa using c
        simp only [List.lookup_cons, c'] at h
        obtain ⟨w, e1, e2⟩ := look_rep hn o2 h2 rs h
        refine ⟨w, ?_, e2⟩
        have : (fname n == k) = false := by
          rw [h1]
          cases q : fname n == fname m with
          | false => rfl
          | true => exact absurd (fname_inj n m hn o1 (eq_of_beq q)) c
        simp only [List.lookup_cons, this]; exact e1
/-- the fields but for the list of its own -/
def FRw (K : Frag) (F : Hp) (fv : List (Str × V)) (fs : List (Nat × D)) : Prop := ∀ n d, n < 5 → n ≠ 2 → okF fs = true → fs.lookup n = some d → ∃ v, fv.lookup (fname n) = some v ∧ Rep K F v d
theorem FRw.of {fv : List (Str × V)} {fs : List (Nat × D)} (m : fv.map (·.1) = fs.map (fun p => fname p.1)) (r : Reps K F (fv.map (·.2)) (fs.map (·.2))) : FRw K F fv fs := fun n d h1 _ h3 h4 => look_rep h1 h3 m r h4
theorem FRw.cons {n0 : Nat} {v0 : V} {d0 : D} {fv : List (Str × V)} {fs : List (Nat × D)} (r : n0 ≠ 2 → Rep K F v0 d0) (t : FRw K F fv fs) : FRw K F ((fname n0, v0) :: fv) ((n0, d0) :: fs) := fun n d h1 h2 h3 h4 => by
  obtain ⟨o1, o2⟩ := okF_cons h3
  by_cases c : n = n0
  · subst c
    simp only [List.lookup_cons, beq_self_eq_true] at h4
    cases h4
    exact ⟨v0, by simp, r h2⟩
  · have c' : (n == n0) = false := by simpa using c
    simp only [List.lookup_cons, c'] at h4
    obtain ⟨w, e1, e2⟩ := t n d h1 h2 o2 h4
    refine ⟨w, ?_, e2⟩
    have : (fname n == fname n0) = false := by
      cases q : fname n == fname n0 with
      | false => rfl
      | true => exact absurd (fname_inj n n0 h1 o1 (eq_of_beq q)) c
    simp only [List.lookup_cons, this]; exact e1
end
/-- the instance that a handle names -/
def Sl.ins : Sl → Option (Nat × List (Nat × D))
  | .im (.ins c fs) => some (c, fs)
  | .ro (.ins c fs) => some (c, fs)
  | .ow (.ins c fs) => some (c, fs)
  | .mb (.ins c fs) => some (c, fs)
  | _ => none
def Hd.ins (g : Gm) : Hd → Option (Nat × List (Nat × D))
  | .va (.ins c fs) => some (c, fs)
  | .va _ => none
  | .nm i => (g[i]?).bind Sl.ins
end Cq

set_option Elab.async false
set_option linter.all false
set_option maxRecDepth 100000
set_option Elab.async false
set_option linter.all false
set_option maxRecDepth 100000
namespace Cq
open PySem PySem.Spec PyProof.Rows L2
abbrev Tst := Frag → Bool
def obsP (fa : List Tst) (fn : List He5.DefA) (K : Frag) : He.AlD := ((fa.all fun f => f K) && fn.all fun d => d.ok K, fn.map fun d => He5.fnA K (d.at_ K))
def SaysP (fa : List Tst) (fn : List He5.DefA) (K : Frag) : Prop := obsP fa fn K = He5.valA fn
def obsPG (n : Nat) (fa : List Tst) (fn : List He5.DefA) (g : Addr → Option Obj) : He.AlD := obsP fa fn (He.frG g (He5.asA g n ++ [sysModules]))
def hookP (n : Nat) (fa : List Tst) (fn : List He5.DefA) : PySem.W.Hook where
  α := He.AlD
  obs := fun s => obsPG n fa fn s.heap.get?
  val := fun _ => He5.valA fn
  says := fun _ h => ∃ K : Frag, K.In h ∧ SaysP fa fn K
  of := fun _ _ e => ⟨_, He.frG_in, e⟩
  keeps := fun _ _ _ ⟨K, hK, c⟩ k => ⟨K, PySem.W.Frag.In.keeps hK k, c⟩
def tFa (f : He.Fa) : Tst := fun K => f.ok K
/-- a property: its record, its getter -/
def pga (K : Frag) (C : Addr) (f : Str) : Addr := He5.wf K C "property" f
def tPropOf (c : Nat) (f : Str) : Tst := fun K =>
  He.eqO (PySem.W.findIn K (.ref (ca K c)) f) (some (some (.ref (He.ma K (ca K c) f)))) && (He.eqO (PySem.W.specialIn K (.ref (He.ma K (ca K c) f)) "__get__") (some (some (.builtin "property.__get__"))) &&
    (decide (PySem.W.takesIn K (.ref (He.ma K (ca K c) f)) = some true) && (match PySem.W.recIn K (He.ma K (ca K c) f) "property" with
    | some (.ref _ :: _) => true
    | _ => false)))
def cma (K : Frag) (C : Addr) (f : Str) : Addr := He5.wf K C "classmethod" f
def tCMet (c : Nat) (m : Str) : Tst := fun K => He5.wrapB K (ca K c) "classmethod" "classmethod.__get__" m && (PySem.W.fnIn K (cma K (ca K c) m) && (PySem.W.readsIn K (ca K c) (.type "type") && He.eqO (PySem.W.specialIn K (.ref (ca K c)) "__getattribute__") (some (some (.builtin "type.__getattribute__")))))
def tInsC (c : Nat) : Tst := fun K => (He.Fa.cls (cname c)).ok K && (He.eqO (PySem.W.findIn K (.ref (ca K c)) "__class__") (some (some (.builtin "object.__class__"))) && (He.eqO (PySem.W.specialIn K (.builtin "object.__class__") "__get__") (some (some (.builtin "getset_descriptor.__get__"))) &&
  (decide (PySem.W.takesIn K (.builtin "object.__class__") = some true) && decide (PySem.W.mroIn K (ca K c) (.type "object") = some true))))
def tKit (cs : List Nat) (T : Ty) : Tst := fun K =>
  (decide (PySem.W.kitOne K (.type "NoneType") (T.val K) = some false) && (decide (PySem.W.kitOne K (.type "bool") (T.val K) = some (isTy T (.bl true))) && (decide (PySem.W.kitOne K (.type "int") (T.val K) = some (isTy T (.int 0))) &&
    (decide (PySem.W.kitOne K (.type "str") (T.val K) = some (isTy T (.str Str.empty))) && (decide (PySem.W.kitOne K (.type "tuple") (T.val K) = some (isTy T (.tup []))) && (decide (PySem.W.kitOne K (.type "list") (T.val K) = some (isTy T (.lst []))) &&
    (decide (PySem.W.kitOne K (.type "dict") (T.val K) = some (isTy T (.dik []))) && cs.all fun c => tInsC c K && decide (PySem.W.kitOne K (.ref (ca K c)) (T.val K) = some (isTy T (.ins c [])))))))))) 
def tTup (x : Str) (vs : List He.Dv) : Tst := fun K => He.eqO (PySem.W.nsIn K mainGlobals x) (some (some (.ref (He.ga K x)))) && He.tupB K x vs
end Cq

set_option Elab.async false
set_option linter.all false
set_option maxRecDepth 100000
set_option Elab.async false
set_option linter.all false
set_option maxRecDepth 100000
set_option Elab.async false
set_option linter.all false
set_option maxRecDepth 100000
namespace Cq
open PySem PySem.Spec PyProof.Rows L2
section
variable {X : Cx} {W : WX} {pos p p2 pos' : Pos} {σ : L2.St} {F H F0 H0 : Hp} {g g0 : Gm} {x : Str}
/-- which clause takes which exception -/
def subE : Nat → Nat → Bool := fun c x => c == x || x == 10
/-- what is known of the clauses: tests -/
def tExm (cs xs : List Nat) : Tst := fun K => cs.all fun c => xs.all fun x => decide (PySem.W.exmOne K (exv K c) (exv K x) = some (subE c x))
end
end Cq

set_option Elab.async false
set_option linter.all false
set_option maxRecDepth 100000
set_option maxHeartbeats 2000000
set_option Elab.async false
set_option linter.all false
set_option maxRecDepth 100000
set_option maxHeartbeats 2000000
set_option Elab.async false
set_option linter.all false
set_option maxRecDepth 100000
set_option maxHeartbeats 2000000
set_option Elab.async false
set_option linter.all false
set_option maxRecDepth 100000
set_option maxHeartbeats 2000000
namespace Cq
open PySem PySem.Spec PyProof.Rows L2 LamX
def tNoT : Tst := fun K => (tT K).isEmpty
end Cq
set_option Elab.async false
set_option linter.all false
set_option maxRecDepth 100000
namespace Cq
open PySem PySem.Spec PyProof.Rows L2
/-- the object at sys.modules' place is a dict -/
def SmK (K : Frag) : Prop := ∃ o, K.lookup sysModules = some o ∧ o.cls = .type "dict"
def tSm : Tst := fun K => match K.lookup sysModules with
  | some o => (match o.cls with
    | .type n => decide (n = "dict")
    | _ => false)
  | none => false
def keyP : Key → PyData
  | .inl i => .int i
  | .inr x => .str x
mutual
def D.pyd : D → Option PyData
  | .non => some .none
  | .bl b => some (.bool b)
  | .int i => some (.int i)
  | .str x => some (.str x)
  | .tup xs => (pydL xs).map .tuple
  | .lst xs => (pydL xs).map .list
  | .dik kvs => (pydK kvs).map .dict
  | _ => none
def pydK : List (Key × D) → Option (List (PyData × PyData))
  | [] => some []
  | (k, d) :: r => match d.pyd, pydK r with
    | some p, some ps => some ((keyP k, p) :: ps)
    | _, _ => none
def pydL : List D → Option (List PyData)
  | [] => some []
  | d :: ds => match d.pyd, pydL ds with
    | some p, some ps => some (p :: ps)
    | _, _ => none
end
theorem pydK_L : ∀ {kvs : List (Key × D)} {ps : List (PyData × PyData)}, pydK kvs = some ps → pydL (kvs.map (·.2)) = some (ps.map (·.2)) ∧ ps.map (·.1) = kvs.map fun kv => keyP kv.1
  | [], _, e => by simp only [pydK] at e; cases e; exact ⟨rfl, rfl⟩
  | (k, d) :: r, _, e => by
    simp only [pydK] at e
    cases q : d.pyd with
    | none => rw [q] at e; cases e
    | some p => cases q2 : pydK r with
      | none => rw [q, q2] at e; cases e
      | some ps =>
        rw [q, q2] at e; cases e
        obtain ⟨h1, h2⟩ := pydK_L q2
        exact ⟨by simp only [List.map_cons, pydL, q, h1], by simp only [List.map_cons, h2]⟩
theorem keys_read {P : Program} {w : World} {h : Heap} : ∀ {es : List DictEntry} {vs : List (Key × Value)}, Pairs (mixKind P w) es vs → ReadsAll h (es.map (·.key)) (vs.map fun kv => keyP kv.1) [] ∧ es.map (·.val) = vs.map (·.2)
  | _, _, .nil => ⟨.nil, rfl⟩
  | _, _, .cons (kv := kv) hk hv r => by
    obtain ⟨h1, h2⟩ := keys_read (h := h) r
    refine ⟨?_, by simp only [List.map_cons, h2, hv]⟩
    rcases keyIs_shape hk with ⟨i, t, e0, e⟩ | ⟨x, t, e0, e⟩
    · have := ReadsAll.cons (h := h) (.int i t) h1
      simp only [List.map_cons, e, e0]
      exact this
    · have := ReadsAll.cons (h := h) (.str x t) h1
      simp only [List.map_cons, e, e0]
      exact this
theorem kv_vals : ∀ {kv : List (Key × V)} {vs : List (Key × Value)}, KV kv vs → Vals (kv.map (·.2)) (vs.map (·.2)) ∧ kv.map (·.1) = vs.map (·.1)
  | _, _, .nil => ⟨.nil, rfl⟩
  | _, _, .cons h r => by
    obtain ⟨h1, h2⟩ := kv_vals r
    exact ⟨.cons h.2 h1, by simp only [List.map_cons, h.1, h2]⟩
section
variable {X : Cx} {pins : List (Addr × Obj)} {σ : L2.St} {F H : Hp} {s : Shared}
theorem sm_list (I : Inv X pins σ H s) (sm : SmK X.K) {a : Addr} {o : Obj} (h : s.heap.get? a = some o) (hc : o.cls = .type "list") : a ≠ sysModules := fun z => by
  obtain ⟨o', h1, h2⟩ := sm
  subst z
  have e := I.kIn _ _ h1
  rw [h] at e; cases e
  rw [hc] at h2
  exact absurd h2 (by decide +kernel)
mutual
theorem Rep.reads (I : Inv X pins σ H s) (sm : SmK X.K) (sb : Sub F H) : ∀ {v : V} {d : D} {p : PyData} {u : Value}, Rep X.K F v d → d.pyd = some p → RelV v u → ∃ as, Reads s.heap u p as ∧ sysModules ∉ as
  | _, _, _, _, .non, e, r => by simp only [D.pyd] at e; cases e; cases r; exact ⟨_, .none, by simp⟩
  | _, _, _, _, .bl b, e, r => by simp only [D.pyd] at e; cases e; cases r; exact ⟨_, .bool b, by simp⟩
  | _, _, _, _, .int i, e, r => by simp only [D.pyd] at e; cases e; obtain ⟨t, rfl⟩ := r; exact ⟨_, .int i t, by simp⟩
  | _, _, _, _, .str x, e, r => by simp only [D.pyd] at e; cases e; obtain ⟨t, rfl⟩ := r; exact ⟨_, .str x t, by simp⟩
  | _, .tup xs, _, _, .tup h t, e, r => by
    simp only [D.pyd] at e
    cases q : pydL xs with
    | none => rw [q] at e; cases e
    | some ps =>
      rw [q] at e; cases e
      cases r
      obtain ⟨its, rv, ⟨o, ho, hc, n, hd⟩, _⟩ := I.tuple (sb.tup h)
      obtain ⟨as, hr, ns⟩ := Reps.reads I sm sb t q rv
      exact ⟨_, .tuple ho hc hd hr, ns⟩
  | _, .lst xs, _, _, .lst h t, e, r => by
    simp only [D.pyd] at e
    cases q : pydL xs with
    | none => rw [q] at e; cases e
    | some ps =>
      rw [q] at e; cases e
      cases r
      obtain ⟨its, rv, ⟨o, n, ho, hc, _, hd⟩, _⟩ := I.list (.inl (.inl (sb _ _ h)))
      obtain ⟨as, hr, ns⟩ := Reps.reads I sm sb t q rv
      exact ⟨_, .list ho hc hd hr, fun z => (List.mem_cons.mp z).elim (fun z => sm_list I sm ho hc z.symm) ns⟩
  | _, .dik kvs, _, _, .dik h k t, e, r => by
    simp only [D.pyd] at e
    cases q : pydK kvs with
    | none => rw [q] at e; cases e
    | some ps =>
      rw [q] at e; cases e
      cases r
      obtain ⟨q1, q2⟩ := pydK_L q
      obtain ⟨_, hs, vs, rel, o, es, ep, h1, h2, h3, h4, h5, h6⟩ := dk_of I.hok (sb _ _ h)
      obtain ⟨kr, ke⟩ := keys_read (h := s.heap) h5
      obtain ⟨rv, kk⟩ := kv_vals rel
      obtain ⟨as, hr, ns⟩ := Reps.reads I sm sb t q1 rv
      have ek : (vs.map fun kv => keyP kv.1) = ps.map (·.1) := by
        rw [q2]
        have e1 := congrArg (List.map keyP) (kk.symm.trans k)
        rw [List.map_map, List.map_map] at e1
        exact e1
      rw [ek] at kr
      rw [← ke] at hr
      refine ⟨_, .dict h1 h2.1 h3 kr hr, fun z => ?_⟩
      rcases List.mem_append.mp z with z | z
      · rcases List.mem_cons.mp z with z | z
        · exact beq_eq_false_iff_ne.mp hs z.symm
        · cases z
      · exact ns z
  | _, _, _, _, .dit _ _ _, e, _ => by simp [D.pyd] at e
  | _, _, _, _, .ins _ _ _ _, e, _ => by simp [D.pyd] at e
  | _, _, _, _, .scr _, e, _ => by simp [D.pyd] at e
  | _, _, _, _, .glo _, e, _ => by simp [D.pyd] at e
  | _, _, _, _, .ktp _, e, _ => by simp [D.pyd] at e
  | _, _, _, _, .lam _, e, _ => by simp [D.pyd] at e
  | _, _, _, _, .ixt _ _ _, e, _ => by simp [D.pyd] at e
theorem Reps.reads (I : Inv X pins σ H s) (sm : SmK X.K) (sb : Sub F H) : ∀ {vs : List V} {ds : List D} {ps : List PyData} {us : List Value}, Reps X.K F vs ds → pydL ds = some ps → Vals vs us → ∃ as, ReadsAll s.heap us ps as ∧ sysModules ∉ as
  | _, _, _, _, .nil, e, r => by simp only [pydL] at e; cases e; cases r; exact ⟨_, .nil, by simp⟩
  | _, d :: ds, _, _, .cons t ts, e, r => by
    simp only [pydL] at e
    cases q : d.pyd with
    | none => rw [q] at e; cases e
    | some p => cases q2 : pydL ds with
      | none => rw [q, q2] at e; cases e
      | some ps =>
        rw [q, q2] at e; cases e
        cases r with
        | cons r rs =>
          obtain ⟨as, h1, n1⟩ := Rep.reads I sm sb t q r
          obtain ⟨bs, h2, n2⟩ := Reps.reads I sm sb ts q2 rs
          exact ⟨_, .cons h1 h2, fun z => (List.mem_append.mp z).elim n1 n2⟩
end
theorem RoV.reads (I : Inv X pins σ H s) (sm : SmK X.K) (sb : Sub F H) {v : V} {d : D} {p : PyData} {u : Value} (k : RoV X.K F H v d) (e : d.pyd = some p) (r : RelV v u) : ∃ as, Reads s.heap u p as ∧ sysModules ∉ as := by
  rcases k with k | ⟨a, rfl, c, _⟩
  · exact Rep.reads I sm sb k e r
  · cases d with
    | lst xs =>
      obtain ⟨vs, h, t⟩ := c
      simp only [D.pyd] at e
      cases q : pydL xs with
      | none => rw [q] at e; cases e
      | some ps =>
        rw [q] at e; cases e
        cases r
        obtain ⟨its, rv, ⟨o, n, ho, hc, _, hd⟩, _⟩ := I.list (.inl (.inl h))
        obtain ⟨as, hr, ns⟩ := Reps.reads I sm sb t q rv
        exact ⟨_, .list ho hc hd hr, fun z => (List.mem_cons.mp z).elim (fun z => sm_list I sm ho hc z.symm) ns⟩
    | dik xs =>
      obtain ⟨kv, h, k, t⟩ := c
      simp only [D.pyd] at e
      cases q : pydK xs with
      | none => rw [q] at e; cases e
      | some ps =>
        rw [q] at e; cases e
        cases r
        obtain ⟨q1, q2⟩ := pydK_L q
        obtain ⟨_, hs, vs, rel, o, es, ep, h1, h2, h3, h4, h5, h6⟩ := dk_of I.hok h
        obtain ⟨kr, ke⟩ := keys_read (h := s.heap) h5
        obtain ⟨rv, kk⟩ := kv_vals rel
        obtain ⟨as, hr, ns⟩ := Reps.reads I sm sb t q1 rv
        have ek : (vs.map fun kv => keyP kv.1) = ps.map (·.1) := by
          rw [q2]
          have e1 := congrArg (List.map keyP) (kk.symm.trans k)
          rw [List.map_map, List.map_map] at e1
          exact e1
        rw [ek] at kr
        rw [← ke] at hr
        refine ⟨_, .dict h1 h2.1 h3 kr hr, fun z => ?_⟩
        rcases List.mem_append.mp z with z | z
        · rcases List.mem_cons.mp z with z | z
          · exact beq_eq_false_iff_ne.mp hs z.symm
          · cases z
        · exact ns z
    | dit _ => simp [D.pyd] at e
    | ins _ _ => simp [D.pyd] at e
    | _ => exact c.elim
end
end Cq

set_option Elab.async false
set_option linter.all false
set_option maxRecDepth 100000
set_option maxHeartbeats 4000000
namespace Cq.K61
open PySem PySem.Spec PyProof.Rows L2 Cq
def top (i : Nat) : Stmt := PySem.Challenge.pw_countalike_k61_texts_of_questions.main.body.getD i (.Pass ⟨0, 0, 0, 0⟩)
def mth (i j : Nat) : Stmt := match top i with
  | .ClassDef (body := b) .. => b.getD j (.Pass ⟨0, 0, 0, 0⟩)
  | s => s
def fa : List Tst := [
  tFa (.free "len"),
  tFa (.free "min"),
  tFa (.free "max"),
  tFa (.free "range"),
  tFa (.glo "_law_cell"),
  tFa (.keep "_law_cell"),
  tFa (.glo "_law_source"),
  tFa (.keep "_law_source"),
  tFa (.free "str"),
  tFa (.glo "_law_draw"),
  tFa (.keep "_law_draw"),
  tFa (.glo "_law_choose"),
  tFa (.keep "_law_choose"),
  tFa (.glo "_law_some"),
  tFa (.keep "_law_some"),
  tFa (.glo "_law_words"),
  tFa (.keep "_law_words"),
  tFa (.glo "_law_near"),
  tFa (.keep "_law_near"),
  tKit [0, 1] .str,
  tFa (.free "isinstance"),
  tFa (.free "int"),
  tFa (.free "tuple"),
  tFa (.glo "_law_read"),
  tFa (.keep "_law_read"),
  (fun K => (He.Fa.cls "Question").ok K && (He.Fa.noat "Question" "kept").ok K),
  tFa (.free "sorted"),
  tFa (.free "set"),
  tFa (.glo "variables_of"),
  tFa (.keep "variables_of"),
  tFa (.meth "Question" "__repr__"),
  tSm,
  tFa (.free "repr"),
  tExm [10, 11, 12, 14, 15, 16, 17, 18] [14],
  tFa (.exc "NoText"),
  tFa (.glo "NoText"),
  tFa (.str "DIGITS" "0123456789"),
  tFa (.glo "atom_of_word"),
  tFa (.keep "atom_of_word"),
  tFa (.int "MOST_ATOMS" 4),
  tKit [0, 1] .tuple,
  tTup "KINDS" ((["A", "B", "C"] : List Str).map He.Dv.str),
  tFa (.glo "KINDS"),
  tFa (.glo "is_kind"),
  tFa (.keep "is_kind"),
  tKit [0, 1] .int,
  tKit [0, 1] .bool,
  tFa (.free "bool"),
  tFa (.glo "is_integer"),
  tFa (.keep "is_integer"),
  tFa (.int "MOST_VARIABLE" 9),
  tFa (.glo "is_between"),
  tFa (.keep "is_between"),
  tFa (.glo "is_atom"),
  tFa (.keep "is_atom"),
  tFa (.free "all"),
  tFa (.glo "are_atoms"),
  tFa (.keep "are_atoms"),
  tFa (.exc "NoAtoms"),
  tFa (.glo "NoAtoms"),
  tFa (.mkr "Question"),
  tFa (.keep "Question"),
  tCMet 1 "read",
  tFa (.glo "Question"),
  tPropOf 1 "atoms",
  tFa (.cls "Question"),
  tFa (.glo "_law_is_equal"),
  tFa (.keep "_law_is_equal"),
  tFa (.meth "Question" "text"),
  tKit [0, 1] (.cls 1),
  tFa (.meth "Question" "__eq__"),
  tFa (.glo "_law_is_right"),
  tFa (.keep "_law_is_right"),
  tFa (.glo "law"),
  tNoT]
def e_x_law_source : He5.DefA := ⟨fun K => (He.ga K "_law_source"), "_law_source", "_law_source", defArgs (top 47), defBody (top 47), defScope (top 47), [], []⟩
def e_x_law_cell : He5.DefA := ⟨fun K => (He.ga K "_law_cell"), "_law_cell", "_law_cell", defArgs (top 46), defBody (top 46), defScope (top 46), [], []⟩
def e_x_law_words : He5.DefA := ⟨fun K => (He.ga K "_law_words"), "_law_words", "_law_words", defArgs (top 52), defBody (top 52), defScope (top 52), [], []⟩
def e_x_law_draw : He5.DefA := ⟨fun K => (He.ga K "_law_draw"), "_law_draw", "_law_draw", defArgs (top 48), defBody (top 48), defScope (top 48), [], []⟩
def e_x_law_choose : He5.DefA := ⟨fun K => (He.ga K "_law_choose"), "_law_choose", "_law_choose", defArgs (top 49), defBody (top 49), defScope (top 49), [], []⟩
def e_x_law_some : He5.DefA := ⟨fun K => (He.ga K "_law_some"), "_law_some", "_law_some", defArgs (top 51), defBody (top 51), defScope (top 51), [], []⟩
def e_x_law_near : He5.DefA := ⟨fun K => (He.ga K "_law_near"), "_law_near", "_law_near", defArgs (top 57), defBody (top 57), defScope (top 57), [], []⟩
def e_x_law_read : He5.DefA := ⟨fun K => (He.ga K "_law_read"), "_law_read", "_law_read", defArgs (top 55), defBody (top 55), defScope (top 55), [], []⟩
def e_variables_of : He5.DefA := ⟨fun K => (He.ga K "variables_of"), "variables_of", "variables_of", defArgs (top 38), defBody (top 38), defScope (top 38), [], []⟩
def e_Question___repr : He5.DefA := ⟨fun K => (He.ma K (ca K 1) "__repr__"), "__repr__", "Question.__repr__", defArgs (mth 43 13), defBody (mth 43 13), defScope (mth 43 13), [], []⟩
def e_atom_of_word : He5.DefA := ⟨fun K => (He.ga K "atom_of_word"), "atom_of_word", "atom_of_word", defArgs (top 37), defBody (top 37), defScope (top 37), [], []⟩
def e_is_kind : He5.DefA := ⟨fun K => (He.ga K "is_kind"), "is_kind", "is_kind", defArgs (top 19), defBody (top 19), defScope (top 19), [], []⟩
def e_is_integer : He5.DefA := ⟨fun K => (He.ga K "is_integer"), "is_integer", "is_integer", defArgs (top 17), defBody (top 17), defScope (top 17), [], []⟩
def e_is_between : He5.DefA := ⟨fun K => (He.ga K "is_between"), "is_between", "is_between", defArgs (top 18), defBody (top 18), defScope (top 18), [], []⟩
def e_is_atom : He5.DefA := ⟨fun K => (He.ga K "is_atom"), "is_atom", "is_atom", defArgs (top 35), defBody (top 35), defScope (top 35), [], []⟩
def e_are_atoms : He5.DefA := ⟨fun K => (He.ga K "are_atoms"), "are_atoms", "are_atoms", defArgs (top 36), defBody (top 36), defScope (top 36), [], []⟩
def e_Question___init : He5.DefA := ⟨fun K => (He.ma K (ca K 1) "__init__"), "__init__", "Question.__init__", defArgs (mth 43 0), defBody (mth 43 0), defScope (mth 43 0), [], []⟩
def e_Question_read : He5.DefA := ⟨fun K => (cma K (ca K 1) "read"), "read", "Question.read", defArgs (mth 43 1), defBody (mth 43 1), defScope (mth 43 1), [], []⟩
def e_x_law_is_equal : He5.DefA := ⟨fun K => (He.ga K "_law_is_equal"), "_law_is_equal", "_law_is_equal", defArgs (top 50), defBody (top 50), defScope (top 50), [], []⟩
def e_Question_atoms : He5.DefA := ⟨fun K => (pga K (ca K 1) "atoms"), "atoms", "Question.atoms", defArgs (mth 43 3), defBody (mth 43 3), defScope (mth 43 3), [], []⟩
def e_Question_text : He5.DefA := ⟨fun K => (He.ma K (ca K 1) "text"), "text", "Question.text", defArgs (mth 43 2), defBody (mth 43 2), defScope (mth 43 2), [], []⟩
def e_Question___eq : He5.DefA := ⟨fun K => (He.ma K (ca K 1) "__eq__"), "__eq__", "Question.__eq__", defArgs (mth 43 12), defBody (mth 43 12), defScope (mth 43 12), [], []⟩
def e_x_law_is_right : He5.DefA := ⟨fun K => (He.ga K "_law_is_right"), "_law_is_right", "_law_is_right", defArgs (top 56), defBody (top 56), defScope (top 56), [], []⟩
def e_law : He5.DefA := ⟨fun K => (He.ga K "law"), "law", "law", defArgs (top 58), defBody (top 58), defScope (top 58), [], []⟩
def fn : List He5.DefA := [e_x_law_source, e_x_law_cell, e_x_law_words, e_x_law_draw, e_x_law_choose, e_x_law_some, e_x_law_near, e_x_law_read, e_variables_of, e_Question___repr, e_atom_of_word, e_is_kind, e_is_integer, e_is_between, e_is_atom, e_are_atoms, e_Question___init, e_Question_read, e_x_law_is_equal, e_Question_atoms, e_Question_text, e_Question___eq, e_x_law_is_right, e_law]
end Cq.K61

set_option Elab.async false
set_option linter.all false
set_option maxRecDepth 100000
set_option maxHeartbeats 0
namespace Cq.K61
open PySem PySem.Spec PyProof.Rows L2 Cq
def loose0 : List PySem.Str := ["_wall", "CountError", "NoRows", "NoKey", "NoText", "NoTable", "NoAtoms", "NoQuestion", "TooMuch", "KINDS", "MOST_VALUE", "MOST_OFTEN", "MOST_ROWS", "SMALL", "DIGITS", "is_integer", "is_between", "is_kind", "is_key", "is_row", "are_rows", "word_number", "row_of_line", "shifted", "greatest", "added", "paired", "table_of", "Table", "need_table"]
def loose1 : List PySem.Str := ["MOST_ATOMS", "MOST_VARIABLE", "is_atom", "are_atoms", "atom_of_word", "variables_of", "extended", "raw_ways", "raw_count", "question_of", "Question", "need_question", "_law_cell", "_law_source", "_law_draw", "_law_choose", "_law_is_equal", "_law_some", "_law_words", "_law_question", "_law_names", "_law_read", "_law_is_right", "_law_near"]
def loose : List PySem.Str := loose0 ++ loose1
abbrev R : PySem.W.OpenRow := PySem.W.OpenLaw.row PySem.Challenge.rw_countalike_k61_texts_of_questions
abbrev hk : PySem.W.Hook := hookP 6 fa fn
def ob (s : PySem.W.SharedT) : He.AlD := obsPG 6 fa fn (HandSHeadRun.getT s)
theorem run (w : World) : HandSHeadRun.RunEq R (PySem.W.view R.prog [58]) hk ob 9000 loose w := by
  intro os
  kernel_rfl
end Cq.K61
set_option Elab.async false
set_option linter.all false
set_option maxRecDepth 100000
namespace Cq
open PySem PySem.Spec PyProof.Rows L2
def M.ret {α : Type} (a : α) : M α := fun g => some (.ok a g)
def M.fail {α : Type} : M α := fun _ => none
def Sl.con : Sl → Option D
  | .un => none
  | .im d => some d
  | .ro d => some d
  | .ow d => some d
  | .mb d => some d
def conAt (g : Gm) (i : Nat) : Option D := (g[i]?).bind Sl.con

theorem Sub.seq {K : Frag} {F H : Hp} (h : Sub F H) {a : Addr} {xs : List V} (r : SqL K F a xs) : SqL K H a xs := by
  rcases r with r | r
  · exact .inl (h.rd r)
  · exact .inr r
theorem Sub.refl (F : Hp) : Sub F F := fun _ _ e => e
mutual
theorem Rep.mono {K : Frag} {F F' : Hp} (s : Sub F F') : ∀ {v : V} {d : D}, Rep K F v d → Rep K F' v d
  | _, _, .non => .non
  | _, _, .bl b => .bl b
  | _, _, .int i => .int i
  | _, _, .str x => .str x
  | _, _, .tup h r => .tup (s.tup h) (Reps.mono s r)
  | _, _, .lst h r => .lst (s _ _ h) (Reps.mono s r)
  | _, _, .scr h => .scr (s.seq h)
  | _, _, .glo c => .glo c
  | _, _, .dik h k r => .dik (s _ _ h) k (Reps.mono s r)
  | _, _, .dit h k r => .dit (s _ _ h) k (Reps.mono s r)
  | _, _, .ins h h' k r => .ins (s _ _ h) (s _ _ h') k (Reps.mono s r)
  | _, _, .ktp h => .ktp (s _ _ h)
  | _, _, .lam h => .lam (Sub.trans h s)
  | _, _, .ixt h c d => .ixt (s _ _ h) c d
theorem Reps.mono {K : Frag} {F F' : Hp} (s : Sub F F') : ∀ {vs : List V} {ds : List D}, Reps K F vs ds → Reps K F' vs ds
  | _, _, .nil => .nil
  | _, _, .cons r t => .cons (Rep.mono s r) (Reps.mono s t)
end
theorem Reps.get {K : Frag} {F : Hp} : ∀ {vs : List V} {ds : List D} {i : Nat} {v : V} {d : D}, Reps K F vs ds → vs[i]? = some v → ds[i]? = some d → Rep K F v d
  | _, _, _, _, _, .nil, e, _ => by simp at e
  | _, _, 0, _, _, .cons r _, e, e' => by simp at e e'; subst e; subst e'; exact r
  | _, _, i + 1, _, _, .cons _ t, e, e' => Reps.get (i := i) t (by simpa using e) (by simpa using e')
theorem Reps.getV {K : Frag} {F : Hp} : ∀ {vs : List V} {ds : List D} {i : Nat} {d : D}, Reps K F vs ds → ds[i]? = some d → ∃ v, vs[i]? = some v ∧ Rep K F v d
  | _, _, _, _, .nil, e => by simp at e
  | _, _, 0, _, .cons r _, e => by simp at e; subst e; exact ⟨_, rfl, r⟩
  | _, _, i + 1, d, .cons _ t, e => by
    obtain ⟨v, h1, h2⟩ := Reps.getV (i := i) (d := d) t (by simpa using e)
    exact ⟨v, by simpa using h1, h2⟩
theorem Reps.append {K : Frag} {F : Hp} : ∀ {vs ws : List V} {ds es : List D}, Reps K F vs ds → Reps K F ws es → Reps K F (vs ++ ws) (ds ++ es)
  | _, _, _, _, .nil, s => s
  | _, _, _, _, .cons r t, s => .cons r (Reps.append t s)
theorem Reps.take {K : Frag} {F : Hp} : ∀ {vs : List V} {ds : List D} (n : Nat), Reps K F vs ds → Reps K F (vs.take n) (ds.take n)
  | _, _, 0, _ => .nil
  | _, _, _ + 1, .nil => .nil
  | _, _, n + 1, .cons r t => .cons r (Reps.take n t)
theorem Reps.drop {K : Frag} {F : Hp} : ∀ {vs : List V} {ds : List D} (n : Nat), Reps K F vs ds → Reps K F (vs.drop n) (ds.drop n)
  | _, _, 0, r => r
  | _, _, _ + 1, .nil => .nil
  | _, _, n + 1, .cons _ t => Reps.drop n t
theorem Reps.set {K : Frag} {F : Hp} {x : V} {y : D} (r : Rep K F x y) : ∀ {vs : List V} {ds : List D} (i : Nat), Reps K F vs ds → Reps K F (vs.set i x) (ds.set i y)
  | _, _, _, .nil => .nil
  | _, _, 0, .cons _ t => .cons r t
  | _, _, i + 1, .cons q t => .cons q (Reps.set r i t)
theorem FReps.same {K : Frag} {F F' H H' : Hp} (s : Sub F F') : ∀ {fv : List (Str × V)} {fs : List (Nat × D)}, FReps K F H fv fs → (∀ x o, (("past" : Str), V.ref x) ∈ fv → H x = some o → H' x = some o) → FReps K F' H' fv fs
  | _, _, .nil, _ => .nil
  | _, _, .cons n r t, k => .cons n (r.mono s) (t.same s fun x o h => k x o (List.mem_cons_of_mem _ h))
  | _, _, .past e r t, k => .past (k _ _ List.mem_cons_self e) (r.mono s) (t.same s fun x o h => k x o (List.mem_cons_of_mem _ h))
theorem FReps.frz {K : Frag} {F F' H : Hp} (s : Sub F F') : ∀ {fv : List (Str × V)} {fs : List (Nat × D)}, FReps K F H fv fs → (∀ x o, (("past" : Str), V.ref x) ∈ fv → H x = some o → F' x = some o) → Reps K F' (fv.map (·.2)) (fs.map (·.2))
  | _, _, .nil, _ => .nil
  | _, _, .cons n r t, k => .cons (r.mono s) (t.frz s fun x o h => k x o (List.mem_cons_of_mem _ h))
  | _, _, .past e r t, k => .cons (.lst (k _ _ List.mem_cons_self e) (r.mono s)) (t.frz s fun x o h => k x o (List.mem_cons_of_mem _ h))
theorem Cell.same {K : Frag} {F F' H H' : Hp} {a : Addr} {d : D} (h : Cell K F H a d) (s : Sub F F') (k : ∀ x o, Foot H a x → H x = some o → H' x = some o) : Cell K F' H' a d := by
  cases d with
  | lst ds => obtain ⟨vs, e, r⟩ := h; exact ⟨vs, k _ _ (.inl rfl) e, r.mono s⟩
  | dik ds => obtain ⟨vs, e, m, r⟩ := h; exact ⟨vs, k _ _ (.inl rfl) e, m, r.mono s⟩
  | dit ds => obtain ⟨vs, e, m, r⟩ := h; exact ⟨vs, k _ _ (.inl rfl) e, m, r.mono s⟩
  | ins c fs => obtain ⟨dx, fv, e, e', m, r⟩ := h; exact ⟨dx, fv, k _ _ (.inl rfl) e, k _ _ (.inr ⟨_, _, _, e, .inl rfl⟩) e', m, r.same s fun x o h => k x o (.inr ⟨_, _, _, e, .inr h⟩)⟩
  | _ => exact h
theorem Foot.same {H H' : Hp} {a x : Addr} {o : HO} (ha : H a = some o) (k : H' a = H a) (f : Foot H' a x) : Foot H a x := by
  rcases f with rfl | ⟨C, dx, fv, e, q⟩
  · exact .inl rfl
  · exact .inr ⟨C, dx, fv, by rw [← k]; exact e, q⟩
def Dt (o : HO) : Prop := NB o ∧ ∀ φ, o ≠ .ext φ
theorem TB.step {K : Frag} {F H F' H' : Hp} (t : TB K F H) (h2 : ∀ P ps, H P = some (.tbl ps) → H' P = some (.tbl ps)) (h3 : ∀ c φ, H c = some (.ext φ) → H' c = some (.ext φ)) (h4 : ∀ x ps, F' x = some (.tbl ps) → F x = some (.tbl ps)) : TB K F' H' := by
  refine ⟨fun p hp => ?_, fun x ps h => t.nf x ps (h4 x ps h)⟩
  obtain ⟨ps, a, b, c⟩ := t.at_ p hp
  refine ⟨ps, h2 _ _ a, b, fun pos cv hc => ?_⟩
  obtain ⟨k, e1, e2⟩ := c pos cv hc
  exact ⟨k, e1, h3 _ _ e2⟩
theorem TB.upd {K : Frag} {F H F' : Hp} {p : Addr} {o : HO} (t : TB K F H) (n : ∀ u, H p = some u → Dt u) (h3 : ∀ x ps, F' x = some (.tbl ps) → F x = some (.tbl ps)) : TB K F' (upd H p o) := by
  refine t.step (fun P ps h => ?_) (fun c φ h => ?_) h3
  · by_cases e : P = p
    · subst e; exact absurd rfl ((n _ h).1 ps)
    · rw [upd_ne e]; exact h
  · by_cases e : c = p
    · subst e; exact absurd rfl ((n _ h).2 φ)
    · rw [upd_ne e]; exact h
theorem fz_upd {F : Hp} {p : Addr} {o : HO} (d : NB o) : ∀ x ps, upd F p o x = some (.tbl ps) → F x = some (.tbl ps) := fun x ps h => by
  by_cases e : x = p
  · subst e; rw [upd_same] at h; cases h; exact absurd rfl (d ps)
  · rw [upd_ne e] at h; exact h
theorem Stp.fr' {F H F' H' : Hp} {g g' : Gm} {σ σ' : L2.St} (P : Stp F H g σ F' H' g' σ') {x : Addr} {o : HO} (h : H x = some o) (nb : NB o) (nt : NT o) (n : F x = none) (no : ¬ Own g σ H x) : H' x = some o ∧ F' x = none := let ⟨a, b⟩ := P.fr x o h nb (fun _ => n) no; ⟨a, b nt⟩
theorem Stp.refl {F H : Hp} {g : Gm} {σ : L2.St} : Stp F H g σ F H g σ := ⟨Sub.refl _, fun _ h => h, fun _ _ a _ b _ => ⟨a, b⟩, fun _ h => .inl h, fun _ _ h => ⟨h, rfl⟩, fun _ d h => ⟨⟨d, h⟩, rfl⟩, fun _ _ _ _ h => ⟨_, h, fun _ h => h⟩⟩
theorem Al.refl {F H : Hp} (s : Sub F H) : Al F H F H := ⟨Sub.refl _, Sub.refl _, s, fun _ _ _ _ h => h, fun _ t => t⟩
/-- a new frozen object -/
theorem Al.mk1 {F H : Hp} {p : Addr} {o : HO} (s : Sub F H) (n : H p = none) (d : NB o := by exact fun _ z => (nomatch z)) : Al F H (upd F p o) (upd H p o) := by
  have nf : F p = none := by
    cases e : F p with
    | none => rfl
    | some u => rw [s _ _ e] at n; cases n
  refine ⟨fun a u e => ?_, fun a u e => ?_, fun a u e => ?_, fun x o h1 nt h2 => ?_, fun K t => t.upd (fun u e => by rw [n] at e; cases e) (fz_upd d)⟩
  · rw [upd_ne (ne_of_none e nf)]; exact e
  · rw [upd_ne (ne_of_none e n)]; exact e
  · by_cases h : a = p
    · subst h; rw [upd_same] at e ⊢; exact e
    · rw [upd_ne h] at e ⊢; exact s _ _ e
  · have : x ≠ p := fun z => by subst z; rw [n] at h1; cases h1
    rw [upd_ne this]; exact h2
theorem Foot.al {H H' : Hp} (s : Sub H H') {a x : Addr} {o : HO} (ha : H a = some o) (f : Foot H' a x) : Foot H a x := f.same ha (by rw [ha, s a o ha])
theorem Foot.mono {H H' : Hp} (s : Sub H H') {a x : Addr} (f : Foot H a x) : Foot H' a x := by
  rcases f with f | ⟨C, dx, fv, e, q⟩
  · exact .inl f
  · exact .inr ⟨C, dx, fv, s _ _ e, q⟩
theorem Sta.own_at {K : Frag} {F H : Hp} {g : Gm} {σ : L2.St} (S : Sta K F g σ H) {x : Addr} (o : Own g σ H x) : ∃ u, H x = some u := by
  obtain ⟨i, d, a, c, e, f⟩ := o
  obtain ⟨a', e', k, _⟩ := S.cell c
  rw [e] at e'; cases e'
  exact k.foot f
theorem Sta.own_al {K : Frag} {F H H' : Hp} {g : Gm} {σ : L2.St} (S : Sta K F g σ H) (s : Sub H H') {x : Addr} (o : Own g σ H' x) : Own g σ H x := by
  obtain ⟨i, d, a, c, e, f⟩ := o
  obtain ⟨a', e', k, _⟩ := S.cell c
  rw [e] at e'; cases e'
  obtain ⟨u, hu⟩ := k.at
  exact ⟨i, d, a, c, e, f.al s hu⟩
theorem RoV.al {K : Frag} {F F' H H' : Hp} {v : V} {d : D} (s : Sub F F') (t : Sub H H') (h : RoV K F H v d) : RoV K F' H' v d := by
  rcases h with h | ⟨a, e, c, n⟩
  · exact .inl (h.mono s)
  · obtain ⟨o, ho⟩ := c.at
    exact .inr ⟨a, e, c.same s fun x o _ q => t _ _ q, fun x f => n x (f.al t ho)⟩
theorem Sta.al {K : Frag} {F F' H H' : Hp} {g : Gm} {σ : L2.St} (S : Sta K F g σ H) (A : Al F H F' H') : Sta K F' g σ H' ∧ Stp F H g σ F' H' g σ := by
  refine ⟨⟨A.sub, S.len, fun i s e => ?_, fun i j d e a b x ij c1 c2 e1 e2 f1 f2 => ?_, fun i d a e1 e2 => ?_, A.tb K S.tb⟩, A.fg, fun x h => ?_, fun x o h1 _ h2 h3 => ⟨A.hg _ _ h1, fun nt => A.new x o h1 nt (h2 nt)⟩, fun x o => .inl (S.own_al A.hg o), fun i d h => ⟨h, rfl⟩, fun i d h => ⟨⟨d, h⟩, rfl⟩, fun b C dx fv h => ⟨fv, A.hg _ _ h, fun _ q => q⟩⟩
  · have q := S.slot i s e
    have cell : ∀ {d : D}, (∃ a, σ[i]? = some (some (V.ref a)) ∧ Cell K F H a d ∧ ∀ x, Foot H a x → F x = none) → ∃ a, σ[i]? = some (some (V.ref a)) ∧ Cell K F' H' a d ∧ ∀ x, Foot H' a x → F' x = none := fun ⟨a, e1, c, n⟩ => by
      obtain ⟨u, hu⟩ := c.at
      refine ⟨a, e1, c.same A.fg fun x o _ h => A.hg _ _ h, fun x f => ?_⟩
      have f0 := f.al A.hg hu
      obtain ⟨u', hu'⟩ := c.foot f0
      exact A.new x u' hu' (c.nt f0 hu') (n x f0)
    cases s with
    | un => trivial
    | im d => obtain ⟨v, e1, r⟩ := q; exact ⟨v, e1, r.mono A.fg⟩
    | ro d => obtain ⟨v, e1, r⟩ := q; exact ⟨v, e1, r.al A.fg A.hg⟩
    | ow d => exact cell q
    | mb d => exact cell q
  · obtain ⟨a', e1', k1, _⟩ := S.cell c1
    rw [e1] at e1'; cases e1'
    obtain ⟨b', e2', k2, _⟩ := S.cell c2
    rw [e2] at e2'; cases e2'
    obtain ⟨u, hu⟩ := k1.at
    obtain ⟨u', hu'⟩ := k2.at
    exact S.inj i j d e a b x ij c1 c2 e1 e2 (f1.al A.hg hu) (f2.al A.hg hu')
  · rcases S.ro i d a e1 e2 with r | r
    · exact .inl (r.mono A.fg)
    · exact .inr fun o => r (S.own_al A.hg o)
  · obtain ⟨o, e⟩ := Option.ne_none_iff_exists'.mp h
    rw [A.hg _ _ e]; exact fun z => nomatch z

abbrev Rl (α β : Type) : Type := L2.St → Hp → Hp → Hp → Gm → α → β → Prop
def Pst {α β : Type} (K : Frag) (W : WX) (σ : L2.St) (rel : Rl α β) (F0 H0 : Hp) (g0 : Gm) (Q : β → Hp → Prop) : Option (Res α) → Prop
  | none => False
  | some (.ok d g') => ∀ v F' H', Sta K F' g' σ H' → Stp F0 H0 g0 σ F' H' g' σ → rel σ H0 F' H' g' d v → Q v H'
  | some (.ex c g') => ∀ F' H', Sta K F' g' σ H' → Stp F0 H0 g0 σ F' H' g' σ → W (exv K c) none σ H'
def tG {α β : Type} (K : Frag) (W : WX) (rel : Rl α β) (m : M α) : L2.St → Hp → (β → Hp → Prop) → Prop := fun σ H Q => ∃ F g, Sta K F g σ H ∧ Pst K W σ rel F H g Q (m g)
theorem Pst_bind {α β γ δ : Type} {K : Frag} {W : WX} {σ : L2.St} {rel : Rl α β} {rel2 : Rl γ δ} {F0 H0 F H : Hp} {g0 g : Gm} {Q : δ → Hp → Prop} {R : β → Hp → Prop} {m : M α} {f : α → M γ} (P0 : Stp F0 H0 g0 σ F H g σ)
    (h : Pst K W σ rel2 F0 H0 g0 Q ((M.bind m f) g))
    (k : ∀ d v F1 H1 g1, Sta K F1 g1 σ H1 → Stp F H g σ F1 H1 g1 σ → Stp F0 H0 g0 σ F1 H1 g1 σ → rel σ H F1 H1 g1 d v → Pst K W σ rel2 F0 H0 g0 Q (f d g1) → R v H1) : Pst K W σ rel F H g R (m g) := by
  unfold M.bind at h
  cases e : m g with
  | none => rw [e] at h; exact h
  | some r =>
    rw [e] at h
    cases r with
    | ok d g1 => exact fun v F1 H1 S1 P1 r1 => k d v F1 H1 g1 S1 P1 (P0.trans P1) r1 h
    | ex c g1 => exact fun F1 H1 S1 P1 => h F1 H1 S1 (P0.trans P1)
theorem Pst_imp {α β : Type} {K : Frag} {W : WX} {σ : L2.St} {rel : Rl α β} {F0 H0 : Hp} {g0 : Gm} {Q R : β → Hp → Prop} {o : Option (Res α)} (h : Pst K W σ rel F0 H0 g0 Q o) (k : ∀ v H, Q v H → R v H) : Pst K W σ rel F0 H0 g0 R o := by
  cases o with
  | none => exact h
  | some r => cases r with
    | ok d g => exact fun v F' H' S P r => k _ _ (h v F' H' S P r)
    | ex c g => exact h
theorem PE_imp {X : Cx} {e : Expr} {t t' : TE} (h : PE X e t) (k : ∀ σ H Q, t' σ H Q → t σ H Q) : PE X e t' := ⟨fun pins s σ H Q I q => h.run pins s σ H Q I (k σ H Q q)⟩
theorem PT_imp {X : Cx} {e : Expr} {t t' : TT} (h : PT X e t) (k : ∀ σ H Q, t' σ H Q → t σ H Q) : PT X e t' := ⟨fun pins s σ H Q I q => h.run pins s σ H Q I (k σ H Q q)⟩
theorem PA_imp {X : Cx} {e : List Expr} {t t' : TA} (h : PA X e t) (k : ∀ σ H Q, t' σ H Q → t σ H Q) : PA X e t' := ⟨fun pos pins s σ H Q I q => h.run pos pins s σ H Q I (k σ H Q q)⟩
theorem PS_imp {X : Cx} {e : Stmt} {t t' : TS} (h : PS X e t) (k : ∀ D σ H, t' D σ H → t D σ H) : PS X e t' := ⟨fun pins s σ H D I q => h.run pins s σ H D I (k D σ H q)⟩
theorem PSs_imp {X : Cx} {e : List Stmt} {t t' : TS} (h : PSs X e t) (k : ∀ D σ H, t' D σ H → t D σ H) : PSs X e t' := ⟨fun pins s σ H D I q => h.run pins s σ H D I (k D σ H q)⟩

def Hd.get (g : Gm) : Hd → Option D
  | .nm i => conAt g i
  | .va d => some d
theorem HdR.mono {K : Frag} {F F' : Hp} {σ : L2.St} (s : Sub F F') : ∀ {h : Hd} {v : V}, HdR K F σ h v → HdR K F' σ h v
  | .nm _, _, r => r
  | .va _, _, r => Rep.mono s r
theorem HdsR.mono {K : Frag} {F F' : Hp} {σ : L2.St} (s : Sub F F') : ∀ {h : List Hd} {v : List V}, HdsR K F σ h v → HdsR K F' σ h v
  | _, _, .nil => .nil
  | _, _, .cons r t => .cons (r.mono s) (t.mono s)
theorem flat_lst {K : Frag} {F H : Hp} {a : Addr} {d : D} (c : Cell K F H a d) (n : ∀ c fs, d ≠ D.ins c fs) : ∀ x, Foot H a x → x = a := by
  intro x f
  rcases f with f | ⟨C, dx, fv, e, _⟩
  · exact f
  · cases d with
    | lst ds => obtain ⟨vs, e1, r⟩ := c; rw [e1] at e; cases e
    | dik ds => obtain ⟨vs, e1, m, r⟩ := c; rw [e1] at e; cases e
    | dit ds => obtain ⟨vs, e1, m, r⟩ := c; rw [e1] at e; cases e
    | ins cc fs => exact absurd rfl (n cc fs)
    | _ => exact c.elim
theorem HdR.rov {K : Frag} {F H : Hp} {g : Gm} {σ : L2.St} {h : Hd} {v : V} {d : D} (S : Sta K F g σ H) (r : HdR K F σ h v) (e : h.rd g = some d) : RoV K F H v d := by
  cases h with
  | va d' => cases e; exact .inl r
  | nm i =>
    have r : σ[i]? = some (some v) := r
    cases q : g[i]? with
    | none => simp only [Hd.rd, q] at e; cases e
    | some s =>
      have k := S.slot i s q
      simp only [Hd.rd, q] at e
      have cell : (∃ a, σ[i]? = some (some (V.ref a)) ∧ Cell K F H a d ∧ ∀ x, Foot H a x → F x = none) → d.flat = true → RoV K F H v d := fun ⟨a, e1, c, _⟩ fl => by
        rw [r] at e1; cases e1
        exact .inr ⟨a, rfl, c, flat_lst c fun c' fs' z => by rw [z] at fl; cases fl⟩
      cases s with
      | un => cases e
      | im d' => cases e; obtain ⟨w, e1, z⟩ := k; rw [r] at e1; cases e1; exact .inl z
      | ro d' => cases e; obtain ⟨w, e1, z⟩ := k; rw [r] at e1; cases e1; exact z
      | ow d' =>
        have e : (if d'.flat = true then some d' else none) = some d := e
        by_cases f : d'.flat = true
        · rw [if_pos f] at e; cases e; exact cell k f
        · rw [if_neg f] at e; cases e
      | mb d' =>
        have e : (if d'.flat = true then some d' else none) = some d := e
        by_cases f : d'.flat = true
        · rw [if_pos f] at e; cases e; exact cell k f
        · rw [if_neg f] at e; cases e
inductive RoVs (K : Frag) (F H : Hp) : List V → List D → Prop
  | nil : RoVs K F H [] []
  | cons {v : V} {d : D} {vs : List V} {ds : List D} : RoV K F H v d → RoVs K F H vs ds → RoVs K F H (v :: vs) (d :: ds)
def rdAll (g : Gm) : List Hd → Option (List D)
  | [] => some []
  | h :: t => match h.rd g, rdAll g t with
    | some d, some ds => some (d :: ds)
    | _, _ => none
theorem HdsR.rov {K : Frag} {F H : Hp} {g : Gm} {σ : L2.St} (S : Sta K F g σ H) : ∀ {hs : List Hd} {vs : List V} {ds : List D}, HdsR K F σ hs vs → rdAll g hs = some ds → RoVs K F H vs ds
  | _, _, _, .nil, e => by cases e; exact .nil
  | h :: hs, _, ds, .cons r t, e => by
    unfold rdAll at e
    cases q : h.rd g with
    | none => rw [q] at e; cases e
    | some d => cases q2 : rdAll g hs with
      | none => rw [q, q2] at e; cases e
      | some es => rw [q, q2] at e; cases e; exact .cons (r.rov S q) (t.rov S q2)

def relE (K : Frag) : Rl D V := fun _ _ F' _ _ d v => Rep K F' v d
def relO (K : Frag) : Rl Hd V := fun σ _ F' _ _ h v => HdR K F' σ h v
def relA (K : Frag) : Rl (List Hd) (List V) := fun σ _ F' _ _ h v => HdsR K F' σ h v
def relB : Rl Bool Bool := fun _ _ _ _ _ b c => b = c
/-- a new cell that nobody else knows -/
def relN (K : Frag) : Rl D V := fun σ H0 F' H' g' d v => ∃ a, v = .ref a ∧ Cell K F' H' a d ∧ ∀ x, Foot H' a x → F' x = none ∧ ¬ Own g' σ H' x ∧ H0 x = none
def SE (X : Cx) (W : WX) (e : Expr) (m : M D) : Prop := PE X e (tG X.K W (relE X.K) m)
def SO (X : Cx) (W : WX) (e : Expr) (m : M Hd) : Prop := PE X e (tG X.K W (relO X.K) m)
def SN (X : Cx) (W : WX) (e : Expr) (m : M D) : Prop := PE X e (tG X.K W (relN X.K) m)
def SB (X : Cx) (W : WX) (e : Expr) (m : M Bool) : Prop := PT X e (tG X.K W relB m)
def SA (X : Cx) (W : WX) (es : List Expr) (m : M (List Hd)) : Prop := PA X es (tG X.K W (relA X.K) m)

section
variable {X : Cx} {W : WX} {pos : Pos}
def mNm (i : Nat) : M Hd := fun g => match g[i]? with
  | none => none
  | some .un => none
  | some _ => some (.ok (.nm i) g)
theorem so_name {x : Str} (i : Nat) (hN : X.N[i]? = some x) (hv : Vis X.env.scope x) (hd : (x == ("__debug__" : Str)) = false := by decide) (hcd : (x == ("__classdict__" : Str)) = false := by decide) : SO X W (.Name x pos) (mNm i) := by
  refine PE_imp (pe_var hN hv hd hcd) fun σ H Q h => ?_
  obtain ⟨F, g, S, h⟩ := h
  unfold mNm at h
  cases q : g[i]? with
  | none => rw [q] at h; exact h.elim
  | some s =>
    have k := S.slot i s q
    rw [q] at h
    have go : ∀ v, σ[i]? = some (some v) → Pst X.K W σ (relO X.K) F H g Q (some (.ok (.nm i) g)) → tVar i σ H Q := fun v e h => ⟨v, e, h v F H S Stp.refl e⟩
    cases s with
    | un => exact h.elim
    | im d => obtain ⟨v, e, _⟩ := k; exact go v e h
    | ro d => obtain ⟨v, e, _⟩ := k; exact go v e h
    | ow d => obtain ⟨v, e, _⟩ := k; exact go _ e h
    | mb d => obtain ⟨v, e, _⟩ := k; exact go _ e h
theorem so_of_se {e : Expr} {m : M D} (h : SE X W e m) : SO X W e (m.bind fun d => M.ret (.va d)) := by
  refine PE_imp h fun σ H Q q => ?_
  obtain ⟨F, g, S, q⟩ := q
  exact ⟨F, g, S, Pst_bind Stp.refl q fun d v F1 H1 g1 S1 P1 _ r1 z => z v F1 H1 S1 P1 r1⟩
theorem se_ret {e : Expr} {v : V} {d : D} (h : PE X e (tC v)) (r : ∀ F, Rep X.K F v d) : SE X W e (M.ret d) := by
  refine PE_imp h fun σ H Q q => ?_
  obtain ⟨F, g, S, q⟩ := q
  exact q v F H S Stp.refl (r F)
theorem se_int {i : Int} {j : Nat} : SE X W (.Constant (.int i) j pos) (M.ret (.int i)) := se_ret pe_int fun _ => .int i
theorem se_bl {b : Bool} {j : Nat} : SE X W (.Constant (.bool b) j pos) (M.ret (.bl b)) := se_ret pe_bl fun _ => .bl b
theorem se_non {j : Nat} : SE X W (.Constant .none j pos) (M.ret .non) := se_ret pe_non fun _ => .non
theorem se_str {x : Str} {j : Nat} : SE X W (.Constant (.str x) j pos) (M.ret (.str x)) := se_ret pe_str fun _ => .str x
/-- a constant of the module -/
theorem se_glob {x : Str} {v : V} {d : D} {u : Value} (hg : Gl X x) (hm : X.mg x = some u) (r : RelV v u) (rd : ∀ F, Rep X.K F v d) (hd : (x == ("__debug__" : Str)) = false := by decide) : SE X W (.Name x pos) (M.ret d) := se_ret (pe_glob hg hm r hd) rd
end

theorem frz_sub {F H : Hp} {a : Addr} (s : Sub F H) : Sub (frz F H a) H := fun x o e => by
  unfold frz at e
  by_cases f : Foot H a x
  · rw [if_pos f] at e; exact e
  · rw [if_neg f] at e; exact s _ _ e
theorem frz_grow {F H : Hp} {a : Addr} (s : Sub F H) : Sub F (frz F H a) := fun x o e => by
  unfold frz
  by_cases f : Foot H a x
  · rw [if_pos f]; exact s _ _ e
  · rw [if_neg f]; exact e
theorem frz_in {F H : Hp} {a x : Addr} (f : Foot H a x) : frz F H a x = H x := by unfold frz; rw [if_pos f]
theorem frz_out {F H : Hp} {a x : Addr} (f : ¬ Foot H a x) : frz F H a x = F x := by unfold frz; rw [if_neg f]
theorem Cell.frz_nt {K : Frag} {F H : Hp} {a : Addr} {d : D} (c : Cell K F H a d) (n : ∀ x ps, F x ≠ some (.tbl ps)) : ∀ x ps, frz F H a x ≠ some (.tbl ps) := fun x ps e => by
  by_cases f : Foot H a x
  · rw [frz_in f] at e; exact (c.dt f e).1 ps rfl
  · rw [frz_out f] at e; exact n x ps e
theorem Cell.frz {K : Frag} {F H : Hp} {a : Addr} {d : D} (s : Sub F H) (c : Cell K F H a d) : Rep K (frz F H a) (.ref a) d := by
  have g := frz_grow (a := a) s
  cases d with
  | lst ds => obtain ⟨vs, e, r⟩ := c; exact .lst (by rw [frz_in (.inl rfl)]; exact e) (r.mono g)
  | dik ds => obtain ⟨vs, e, m, r⟩ := c; exact .dik (by rw [frz_in (.inl rfl)]; exact e) m (r.mono g)
  | dit ds => obtain ⟨vs, e, m, r⟩ := c; exact .dit (by rw [frz_in (.inl rfl)]; exact e) m (r.mono g)
  | ins c fs => obtain ⟨dx, fv, e, e', m, r⟩ := c; exact .ins (by rw [frz_in (.inl rfl)]; exact e) (by rw [frz_in (.inr ⟨_, _, _, e, .inl rfl⟩)]; exact e') m (r.frz g fun x o h k => by rw [frz_in (.inr ⟨_, _, _, e, .inr h⟩)]; exact k)
  | _ => exact c.elim
/-- F grows by some of what stands; the cells, the lent things stay apart -/
theorem Sta.grow {K : Frag} {F F' H : Hp} {g g' : Gm} {σ : L2.St} (S : Sta K F g σ H) (s : Sub F F') (s' : Sub F' H) (n : ∀ x, F x = none → (Own g' σ H x) → F' x = none)
    (len : g'.length = g.length) (sl : ∀ (i : Nat) (t : Sl), g'[i]? = some t → g[i]? = some t ∨ SlotOk K F' H σ[i]? t) (cl : ∀ (i : Nat) (t : Sl) (d : D), g'[i]? = some t → t.cell = some d → g[i]? = some t) (rl : ∀ (i : Nat) (d : D), g'[i]? = some (Sl.ro d) → g[i]? = some (Sl.ro d)) (nt : ∀ x ps, F' x ≠ some (.tbl ps)) : Sta K F' g' σ H := by
  have cl' : ∀ (i : Nat) (d : D), (g'[i]?).bind Sl.cell = some d → (g[i]?).bind Sl.cell = some d := fun i d c => by
    cases e : g'[i]? with
    | none => rw [e] at c; cases c
    | some t => rw [e] at c; rw [cl i t d e c]; exact c
  have ow : ∀ x, Own g' σ H x → Own g σ H x := fun x ⟨i, d, a, c, e, f⟩ => ⟨i, d, a, cl' i d c, e, f⟩
  refine ⟨s', len.trans S.len, fun i t e => ?_, fun i j d e a b x ij c1 c2 => S.inj i j d e a b x ij (cl' i d c1) (cl' j e c2), fun i d a e1 e2 => (S.ro i d a (rl i d e1) e2).imp (fun r => r.mono s) fun r o => r (ow a o), ⟨S.tb.at_, nt⟩⟩
  rcases sl i t e with h | h
  · have k := S.slot i t h
    have cell : ∀ {d : D}, t.cell = some d → (∃ a, σ[i]? = some (some (V.ref a)) ∧ Cell K F H a d ∧ ∀ x, Foot H a x → F x = none) → ∃ a, σ[i]? = some (some (V.ref a)) ∧ Cell K F' H a d ∧ ∀ x, Foot H a x → F' x = none := fun {d} ht ⟨a, e1, c, z⟩ =>
      ⟨a, e1, c.same s fun _ _ _ q => q, fun x f => n x (z x f) ⟨i, d, a, by rw [e]; exact ht, e1, f⟩⟩
    cases t with
    | un => trivial
    | im d => obtain ⟨v, e1, r⟩ := k; exact ⟨v, e1, r.mono s⟩
    | ro d => obtain ⟨v, e1, r⟩ := k; exact ⟨v, e1, r.al s (Sub.refl _)⟩
    | ow d => exact cell rfl k
    | mb d => exact cell rfl k
  · exact h
def mFrz (h : Hd) : M D := fun g => match h with
  | .va d => some (.ok d g)
  | .nm i => match g[i]? with
    | some (.im d) => some (.ok d g)
    | some (.ow d) => some (.ok d (g.set i (.im d)))
    | _ => none
theorem set_get {g : Gm} {i j : Nat} {s t : Sl} (h : (g.set i s)[j]? = some t) : (j = i ∧ t = s) ∨ (j ≠ i ∧ g[j]? = some t) := by
  by_cases e : i = j
  · subst e
    by_cases l : i < g.length
    · rw [List.getElem?_set_self l] at h; cases h; exact .inl ⟨rfl, rfl⟩
    · rw [List.getElem?_eq_none (by simpa using l)] at h; cases h
  · rw [List.getElem?_set_ne e] at h; exact .inr ⟨fun z => e z.symm, h⟩
/-- an own cell of a slot is frozen -/
theorem Sta.freeze {K : Frag} {F H : Hp} {g : Gm} {σ : L2.St} (S : Sta K F g σ H) {i : Nat} {d : D} (e : g[i]? = some (.ow d)) : ∃ (a : Addr) (F' : Hp), σ[i]? = some (some (V.ref a)) ∧ Sta K F' (g.set i (.im d)) σ H ∧ Stp F H g σ F' H (g.set i (.im d)) σ ∧ Rep K F' (.ref a) d := by
  obtain ⟨a, e1, c, n⟩ := S.slot i _ e
  have hc : (g[i]?).bind Sl.cell = some d := by rw [e]; rfl
  have r := c.frz S.sub
  have apart : ∀ (j : Nat) (f : D) (b x : Addr), (g[j]?).bind Sl.cell = some f → j ≠ i → σ[j]? = some (some (V.ref b)) → Foot H b x → ¬ Foot H a x := fun j f b x c1 ij e2 f1 f2 => S.inj j i f d b a x ij c1 hc e2 e1 f1 f2
  have ow : ∀ x, Own (g.set i (.im d)) σ H x → Own g σ H x ∧ ¬ Foot H a x := fun x ⟨j, f, b, c1, e2, f1⟩ => by
    cases q : (g.set i (.im d))[j]? with
    | none => rw [q] at c1; cases c1
    | some t =>
      rw [q] at c1
      rcases set_get q with ⟨rfl, rfl⟩ | ⟨hj, hq⟩
      · cases c1
      · have c2 : (g[j]?).bind Sl.cell = some f := by rw [hq]; exact c1
        exact ⟨⟨j, f, b, c2, e2, f1⟩, apart j f b x c2 hj e2 f1⟩
  refine ⟨a, frz F H a, e1, S.grow (frz_grow S.sub) (frz_sub S.sub) (fun x z o => ?_) (by simp) (fun j t q => ?_) (fun j t f q c1 => ?_) (fun j f q => ?_) (c.frz_nt S.tb.nf), ⟨frz_grow S.sub, fun _ h => h, fun x o h1 _ h2 h3 => ⟨h1, ?_⟩, fun x o => .inl (ow x o).1, fun j f q => ⟨?_, rfl⟩, fun j f q => ⟨⟨f, ?_⟩, rfl⟩, fun _ _ _ fv h => ⟨fv, h, fun _ q => q⟩⟩, r⟩
  · rw [frz_out (ow x o).2]; exact z
  · rcases set_get q with ⟨rfl, rfl⟩ | ⟨_, hq⟩
    · exact .inr ⟨_, e1, r⟩
    · exact .inl hq
  · rcases set_get q with ⟨_, z⟩ | ⟨_, hq⟩
    · rw [z] at c1; cases c1
    · exact hq
  · rcases set_get q with ⟨_, z⟩ | ⟨_, hq⟩
    · cases z
    · exact hq
  · rw [frz_out fun f => h3 ⟨i, d, a, hc, e1, f⟩]; exact h2
  · rcases set_get q with ⟨_, z⟩ | ⟨_, hq⟩
    · cases z
    · exact hq
  · rcases set_get q with ⟨_, z⟩ | ⟨_, hq⟩
    · cases z
    · exact hq
theorem mFrz_ok {X : Cx} {W : WX} {σ : L2.St} {F H F0 H0 : Hp} {g g0 : Gm} {h : Hd} {v : V} {Q : V → Hp → Prop} (S : Sta X.K F g σ H) (P : Stp F0 H0 g0 σ F H g σ) (r : HdR X.K F σ h v) (q : Pst X.K W σ (relE X.K) F0 H0 g0 Q (mFrz h g)) : Q v H := by
  cases h with
  | va d => exact q v F H S P r
  | nm i =>
    have r : σ[i]? = some (some v) := r
    unfold mFrz at q
    cases e : g[i]? with
    | none => simp only [e] at q; exact q.elim
    | some s =>
      simp only [e] at q
      cases s with
      | im d =>
        obtain ⟨w, e1, z⟩ := S.slot i _ e
        rw [r] at e1; cases e1
        exact q v F H S P z
      | ow d =>
        obtain ⟨a, F', e1, S', P', r'⟩ := S.freeze e
        rw [r] at e1; cases e1
        exact q _ F' H S' (P.trans P') r'
      | un => exact q.elim
      | ro d => exact q.elim
      | mb d => exact q.elim
theorem se_of_so {X : Cx} {W : WX} {e : Expr} {m : M Hd} (h : SO X W e m) : SE X W e (m.bind mFrz) := by
  refine PE_imp h fun σ H Q q => ?_
  obtain ⟨F, g, S, q⟩ := q
  exact ⟨F, g, S, Pst_bind Stp.refl q fun d v F1 H1 g1 S1 P1 P01 r1 z => mFrz_ok S1 P1 r1 z⟩
/-- a new cell is frozen -/
theorem se_of_sn {X : Cx} {W : WX} {e : Expr} {m : M D} (h : SN X W e m) : SE X W e m := by
  refine PE_imp h fun σ H Q q => ?_
  obtain ⟨F, g, S, q⟩ := q
  refine ⟨F, g, S, ?_⟩
  cases o : m g with
  | none => rw [o] at q; exact q
  | some r =>
    rw [o] at q
    cases r with
    | ex c g1 => exact q
    | ok d g1 =>
      intro v F1 H1 S1 P1 ⟨a, ev, c, n⟩
      subst ev
      have k0 : ∀ x, Foot H1 a x → H x = none := fun x f => (n x f).2.2
      refine q _ (frz F1 H1 a) H1 (S1.grow (frz_grow S1.sub) (frz_sub S1.sub) (fun x z o => ?_) rfl (fun _ _ z => .inl z) (fun _ _ _ z _ => z) (fun _ _ z => z) (c.frz_nt S1.tb.nf)) ⟨P1.fg.trans (frz_grow S1.sub), P1.st, fun x o h1 nb h2 h3 => ?_, P1.own, P1.kro, P1.kmb, P1.ki⟩ (c.frz S1.sub)
      · rw [frz_out fun f => (n x f).2.1 o]; exact z
      · obtain ⟨e1, e2⟩ := P1.fr x o h1 nb h2 h3
        refine ⟨e1, ?_⟩
        rw [frz_out fun f => by rw [k0 x f] at h1; cases h1]
        exact e2
end Cq

set_option Elab.async false
set_option linter.all false
set_option maxRecDepth 100000
namespace Cq
open PySem PySem.Spec PyProof.Rows L2
def rD1 (K : Frag) (f : D → Option D) : V → Hp → VK → Prop := fun x H Q => ∃ F d z, Sub F H ∧ RoV K F H x d ∧ f d = some z ∧ ∀ v F' H', Al F H F' H' → Rep K F' v z → Q v H'
def rD2 (K : Frag) (f : D → D → Option D) : R2 := fun x y H Q => ∃ F d e z, Sub F H ∧ RoV K F H x d ∧ RoV K F H y e ∧ f d e = some z ∧ ∀ v F' H', Al F H F' H' → Rep K F' v z → Q v H'
def rDs (K : Frag) (f : List D → Option D) : List V → Hp → VK → Prop := fun xs H Q => ∃ F ds z, Sub F H ∧ RoVs K F H xs ds ∧ f ds = some z ∧ ∀ v F' H', Al F H F' H' → Rep K F' v z → Q v H'
/-- with a new cell as the answer -/
def rNs (K : Frag) (f : List D → Option D) : List V → Hp → VK → Prop := fun xs H Q => ∃ F ds z, Sub F H ∧ RoVs K F H xs ds ∧ f ds = some z ∧ ∀ a F' H', Al F H F' H' → Cell K F' H' a z → (∀ x, Foot H' a x → H x = none ∧ F' x = none) → Q (.ref a) H'
/-- a method: the receiver, the arguments -/
def rDm (K : Frag) (f : D → List D → Option D) : V → List V → Hp → VK → Prop := fun x xs H Q => rDs K (fun ds => match ds with | d :: es => f d es | [] => none) (x :: xs) H Q

def mAns (o : Option D) : M D := fun g => match o with
  | some z => some (.ok z g)
  | none => none
def mF1 (f : D → Option D) (a : Hd) : M D := fun g => match a.rd g with
  | some d => mAns (f d) g
  | none => none
def mF2 (f : D → D → Option D) (a b : Hd) : M D := fun g => match a.rd g, b.rd g with
  | some d, some e => mAns (f d e) g
  | _, _ => none
def mFs (f : List D → Option D) (hs : List Hd) : M D := fun g => match rdAll g hs with
  | some ds => mAns (f ds) g
  | none => none
section
variable {X : Cx} {W : WX} {pos : Pos} {σ : L2.St} {F H F0 H0 : Hp} {g g0 : Gm} {Q : V → Hp → Prop}
theorem ans_ok {z : D} {o : Option D} (S : Sta X.K F g σ H) (P : Stp F0 H0 g0 σ F H g σ) (q : Pst X.K W σ (relE X.K) F0 H0 g0 Q (mAns o g)) : ∃ z, o = some z ∧ ∀ v F' H', Al F H F' H' → Rep X.K F' v z → Q v H' := by
  cases o with
  | none => exact q.elim
  | some z => exact ⟨z, rfl, fun v F' H' A r => q v F' H' (S.al A).1 (P.trans (S.al A).2) r⟩
theorem f1_ok {f : D → Option D} {h : Hd} {x : V} (S : Sta X.K F g σ H) (P : Stp F0 H0 g0 σ F H g σ) (r : HdR X.K F σ h x) (q : Pst X.K W σ (relE X.K) F0 H0 g0 Q (mF1 f h g)) : rD1 X.K f x H Q := by
  unfold mF1 at q
  cases e : h.rd g with
  | none => rw [e] at q; exact q.elim
  | some d =>
    rw [e] at q
    obtain ⟨z, hz, k⟩ := ans_ok (z := d) S P q
    exact ⟨F, d, z, S.sub, r.rov S e, hz, k⟩
theorem f2_ok {f : D → D → Option D} {h h' : Hd} {x y : V} (S : Sta X.K F g σ H) (P : Stp F0 H0 g0 σ F H g σ) (r : HdR X.K F σ h x) (r' : HdR X.K F σ h' y) (q : Pst X.K W σ (relE X.K) F0 H0 g0 Q (mF2 f h h' g)) : rD2 X.K f x y H Q := by
  unfold mF2 at q
  cases e : h.rd g with
  | none => rw [e] at q; exact q.elim
  | some d => cases e' : h'.rd g with
    | none => rw [e, e'] at q; exact q.elim
    | some d' =>
      rw [e, e'] at q
      obtain ⟨z, hz, k⟩ := ans_ok (z := d) S P q
      exact ⟨F, d, d', z, S.sub, r.rov S e, r'.rov S e', hz, k⟩
theorem fs_ok {f : List D → Option D} {hs : List Hd} {xs : List V} (S : Sta X.K F g σ H) (P : Stp F0 H0 g0 σ F H g σ) (r : HdsR X.K F σ hs xs) (q : Pst X.K W σ (relE X.K) F0 H0 g0 Q (mFs f hs g)) : rDs X.K f xs H Q := by
  unfold mFs at q
  cases e : rdAll g hs with
  | none => rw [e] at q; exact q.elim
  | some ds =>
    rw [e] at q
    obtain ⟨z, hz, k⟩ := ans_ok (z := .non) S P q
    exact ⟨F, ds, z, S.sub, r.rov S e, hz, k⟩
theorem fsN_ok {f : List D → Option D} {hs : List Hd} {xs : List V} (S : Sta X.K F g σ H) (P : Stp F0 H0 g0 σ F H g σ) (r : HdsR X.K F σ hs xs) (q : Pst X.K W σ (relN X.K) F0 H0 g0 Q (mFs f hs g)) : rNs X.K f xs H Q := by
  unfold mFs at q
  cases e : rdAll g hs with
  | none => rw [e] at q; exact q.elim
  | some ds =>
    simp only [e, mAns] at q
    cases hz : f ds with
    | none => simp only [hz] at q; exact q.elim
    | some z =>
      simp only [hz] at q
      refine ⟨F, ds, z, S.sub, r.rov S e, hz, fun a F' H' A c n => q _ F' H' (S.al A).1 (P.trans (S.al A).2) ⟨a, rfl, c, fun x f => ⟨(n x f).2, fun o => ?_, ?_⟩⟩⟩
      · obtain ⟨u, hu⟩ := S.own_at (S.own_al A.hg o)
        rw [(n x f).1] at hu; cases hu
      · exact Classical.byContradiction fun h0 => P.st x h0 (n x f).1
def mOp1 (f : D → Option D) (ma : M Hd) : M D := ma.bind (mF1 f)
def mOp2 (f : D → D → Option D) (ma mb : M Hd) : M D := ma.bind fun a => mb.bind fun b => mF2 f a b
def mCall (f : List D → Option D) (ma : M (List Hd)) : M D := ma.bind (mFs f)
variable {a b : Expr} {ma mb : M Hd}
theorem tOp_ok {f : D → D → Option D} {Q : VK} (q : tG X.K W (relE X.K) (mOp2 f ma mb) σ H Q) : tOp (rD2 X.K f) (tG X.K W (relO X.K) ma) (tG X.K W (relO X.K) mb) σ H Q := by
  obtain ⟨F, g, S, q⟩ := q
  refine ⟨F, g, S, Pst_bind Stp.refl q fun ha v F1 H1 g1 S1 P1 P01 r1 q1 => ⟨F1, g1, S1, Pst_bind P01 q1 fun hb w F2 H2 g2 S2 P2 P02 r2 q2 => ?_⟩⟩
  exact f2_ok S2 P02 (HdR.mono P2.fg r1) r2 q2
theorem se_op2 {op : Operator} {f : D → D → Option D} (ho : OpR X (binaryOp op) (rD2 X.K f)) (ha : SO X W a ma) (hb : SO X W b mb) : SE X W (.BinOp a op b pos) (mOp2 f ma mb) :=
  PE_imp (pe_op ho ha hb) fun _ _ _ q => tOp_ok q
theorem se_op1 {op : UnaryOp} {f : D → Option D} (ho : UnR X (unaryOp op) (rD1 X.K f)) (ha : SO X W a ma) : SE X W (.UnaryOp op a pos) (mOp1 f ma) :=
  PE_imp (pe_un ho ha) fun σ H Q q => by
    obtain ⟨F, g, S, q⟩ := q
    exact ⟨F, g, S, Pst_bind Stp.refl q fun ha v F1 H1 g1 S1 P1 P01 r1 q1 => f1_ok S1 P01 r1 q1⟩
theorem se_cmp {op : CmpOp} {f : D → D → Option D} (ho : OpR X (compareOp op) (rD2 X.K f)) (ha : SO X W a ma) (hb : SO X W b mb) (hm : behindInMarks op b = false) : SE X W (.Compare a [op] [b] pos) (mOp2 f ma mb) :=
  PE_imp (pe_cmpR ho ha hb hm) fun _ _ _ q => tOp_ok q
theorem se_ix {f : D → D → Option D} (ho : IxR X (rD2 X.K f)) (ha : SO X W a ma) (hb : SO X W b mb) (hs : PlainIx b) : SE X W (.Subscript a b pos) (mOp2 f ma mb) :=
  PE_imp (pe_ix ho ha hb hs) fun _ _ _ q => tOp_ok q
def dBool : D → M Bool
  | .bl b => M.ret b
  | _ => M.fail
theorem tTest_ok {m : M D} {Q : Bool → Hp → Prop} (q : tG X.K W relB (m.bind dBool) σ H Q) : tTest (tG X.K W (relE X.K) m) σ H Q := by
  obtain ⟨F, g, S, q⟩ := q
  refine ⟨F, g, S, Pst_bind Stp.refl q fun d v F1 H1 g1 S1 P1 P01 r1 q1 => ?_⟩
  have r1 : Rep X.K F1 v d := r1
  cases d with
  | bl c => cases r1; exact ⟨c, rfl, q1 c F1 H1 S1 P01 rfl⟩
  | _ => exact q1.elim
theorem sb_cmp {op : CmpOp} {f : D → D → Option D} (ho : OpR X (compareOp op) (rD2 X.K f)) (ha : SO X W a ma) (hb : SO X W b mb) (hm : behindInMarks op b = false) : SB X W (.Compare a [op] [b] pos) ((mOp2 f ma mb).bind dBool) :=
  PT_imp (pt_cmpR ho ha hb hm) fun _ _ _ q => by
    have q := tTest_ok q
    obtain ⟨F, g, S, q⟩ := q
    exact tOp_ok ⟨F, g, S, q⟩
theorem sb_val {e : Expr} {m : M D} (h : SE X W e m) (he : ∀ whole, isTrue e X.env whole = (do let v ← whole; standAt e.pos; holding [v] (truthy v)) := by intro _; rfl) : SB X W e (m.bind dBool) :=
  PT_imp (pt_val h he) fun _ _ _ q => tTest_ok q
/-- a chain a op b op' c -/
def mChain (f f' : D → D → Option D) (ma mb mc : M Hd) : M D := ma.bind fun a => mb.bind fun b => (mF2 f a b).bind fun k => match k with
  | .bl true => mc.bind fun c => mF2 f' b c
  | .bl false => M.ret (.bl false)
  | _ => M.fail
theorem tChain_ok {c : Expr} {mc : M Hd} {f f' : D → D → Option D} {Q : VK} (q : tG X.K W (relE X.K) (mChain f f' ma mb mc) σ H Q) : tChain (rD2 X.K f) (rD2 X.K f') (tG X.K W (relO X.K) ma) (tG X.K W (relO X.K) mb) (tG X.K W (relO X.K) mc) σ H Q := by
  obtain ⟨F, g, S, q⟩ := q
  refine ⟨F, g, S, Pst_bind Stp.refl q fun ha v F1 H1 g1 S1 P1 P01 r1 q1 => ⟨F1, g1, S1, Pst_bind P01 q1 fun hb w F2 H2 g2 S2 P2 P02 r2 q2 => ?_⟩⟩
  have q3 := Pst_bind (rel := relE X.K) (R := fun z H3 => ∃ k, z = V.bl k ∧ (if k = true then tG X.K W (relO X.K) mc σ H3 fun w' H4 => rD2 X.K f' w w' H4 Q else Q (.bl false) H3)) P02 q2 fun d z F3 H3 g3 S3 P3 P03 r3 q3 => by
    have r3 : Rep X.K F3 z d := r3
    cases d with
    | bl k =>
      cases r3
      refine ⟨k, rfl, ?_⟩
      cases k with
      | true =>
        rw [if_pos rfl]
        exact ⟨F3, g3, S3, Pst_bind P03 q3 fun hc w' F4 H4 g4 S4 P4 P04 r4 q4 => f2_ok S4 P04 (HdR.mono (P3.fg.trans P4.fg) r2) r4 q4⟩
      | false =>
        rw [if_neg (by decide)]
        exact q3 _ F3 H3 S3 P03 (.bl false)
    | _ => exact q3.elim
  have q3' : Pst X.K W σ (relE X.K) F2 H2 g2 (fun z H3 => ∃ k, z = V.bl k ∧ (if k = true then tG X.K W (relO X.K) mc σ H3 fun w' H4 => rD2 X.K f' w w' H4 Q else Q (.bl false) H3)) (mF2 f ha hb g2) := q3
  exact f2_ok S2 Stp.refl (HdR.mono P2.fg r1) r2 q3'
theorem se_chain {c : Expr} {mc : M Hd} {op op' : CmpOp} {f f' : D → D → Option D} (ho : OpR X (compareOp op) (rD2 X.K f)) (ho' : OpR X (compareOp op') (rD2 X.K f')) (ha : SO X W a ma) (hb : SO X W b mb) (hc : SO X W c mc) (hm : lastMarks [op, op'] [b, c] = false := by with_unfolding_all rfl) :
    SE X W (.Compare a [op, op'] [b, c] pos) (mChain f f' ma mb mc) := PE_imp (pe_chain ho ho' ha hb hc hm) fun _ _ _ q => tChain_ok (c := c) q
def SW (X : Cx) (W : WX) (e : Expr) (m : M Bool) : Prop := PW X e (tG X.K W relB m)
def mAndB (ma mb : M Bool) : M Bool := ma.bind fun c => if c = true then mb else M.ret false
def mOrB (ma mb : M Bool) : M Bool := ma.bind fun c => if c = true then M.ret true else mb
variable {rest : List Expr} {na nb : M Bool} {pa pb : M D}
theorem sb_w {e : Expr} {m : M Bool} (h : SW X W e m) : SB X W e m := PW.pt h
theorem sw_and1 (h : SB X W a na) : SW X W (.BoolOp .And [a] pos) na := pw_and1 h
theorem sw_or1 (h : SB X W a na) : SW X W (.BoolOp .Or [a] pos) na := pw_or1 h
theorem PW_imp {X : Cx} {e : Expr} {t t' : TT} (h : PW X e t) (k : ∀ σ H Q, t' σ H Q → t σ H Q) : PW X e t' := ⟨fun wh pins s σ H Q I q => h.run wh pins s σ H Q I (k σ H Q q)⟩
theorem sw_and (ha : SB X W a na) (hb : SW X W (.BoolOp .And (b :: rest) pos) nb) : SW X W (.BoolOp .And (a :: b :: rest) pos) (mAndB na nb) := PW_imp (pw_and ha hb) fun σ H Q q => by
  obtain ⟨F, g, S, q⟩ := q
  refine ⟨F, g, S, Pst_bind Stp.refl q fun c v F1 H1 g1 S1 P1 P01 r1 q1 => ?_⟩
  cases (show c = v from r1)
  cases c with
  | true => rw [if_pos rfl]; exact ⟨F1, g1, S1, by
      have q1 : Pst X.K W σ relB F H g Q (nb g1) := q1
      cases e : nb g1 with
      | none => rw [e] at q1; exact q1
      | some r => rw [e] at q1; cases r with
        | ok d g2 => exact fun v F' H' S' P' r' => q1 v F' H' S' (P01.trans P') r'
        | ex c g2 => exact fun F' H' S' P' => q1 F' H' S' (P01.trans P')⟩
  | false => rw [if_neg (by decide)]; exact q1 _ F1 H1 S1 P01 rfl
theorem Pst_from {α β : Type} {K : Frag} {rel : Rl α β} {Q : β → Hp → Prop} {o : Option (Res α)} (P : Stp F0 H0 g0 σ F H g σ) (hr : ∀ F' H' g' a b, rel σ H F' H' g' a b → rel σ H0 F' H' g' a b) (q : Pst K W σ rel F0 H0 g0 Q o) : Pst K W σ rel F H g Q o := by
  cases o with
  | none => exact q
  | some r => cases r with
    | ok d g2 => exact fun v F' H' S' P' r' => q v F' H' S' (P.trans P') (hr _ _ _ _ _ r')
    | ex c g2 => exact fun F' H' S' P' => q F' H' S' (P.trans P')
theorem sw_or (ha : SB X W a na) (hb : SW X W (.BoolOp .Or (b :: rest) pos) nb) : SW X W (.BoolOp .Or (a :: b :: rest) pos) (mOrB na nb) := PW_imp (pw_or ha hb) fun σ H Q q => by
  obtain ⟨F, g, S, q⟩ := q
  refine ⟨F, g, S, Pst_bind Stp.refl q fun c v F1 H1 g1 S1 P1 P01 r1 q1 => ?_⟩
  cases (show c = v from r1)
  cases c with
  | true => rw [if_pos rfl]; exact q1 _ F1 H1 S1 P01 rfl
  | false => rw [if_neg (by decide)]; exact ⟨F1, g1, S1, Pst_from P01 (fun _ _ _ _ _ z => z) q1⟩
theorem sb_not (ha : SB X W a na) : SB X W (.UnaryOp .Not a pos) (na.bind fun c => M.ret (!c)) := PT_imp (pt_not ha) fun σ H Q q => by
  obtain ⟨F, g, S, q⟩ := q
  exact ⟨F, g, S, Pst_bind Stp.refl q fun c v F1 H1 g1 S1 P1 P01 r1 q1 => by
    cases (show c = v from r1)
    exact q1 _ F1 H1 S1 P01 rfl⟩
def mAndD (ma mb : M D) : M D := ma.bind fun c => match c with
  | .bl true => mb
  | .bl false => M.ret (.bl false)
  | _ => M.fail
def mOrD (ma mb : M D) : M D := ma.bind fun c => match c with
  | .bl true => M.ret (.bl true)
  | .bl false => mb
  | _ => M.fail
def mNotD (ma : M D) : M D := ma.bind fun c => match c with
  | .bl b => M.ret (.bl (!b))
  | _ => M.fail
theorem se_one {op : BoolOp} (h : SE X W a pa) : SE X W (.BoolOp op [a] pos) pa := pe_one h
theorem se_and (ha : SE X W a pa) (hb : SE X W (.BoolOp .And (b :: rest) pos) pb) : SE X W (.BoolOp .And (a :: b :: rest) pos) (mAndD pa pb) := PE_imp (pe_and ha hb) fun σ H Q q => by
  obtain ⟨F, g, S, q⟩ := q
  refine ⟨F, g, S, Pst_bind Stp.refl q fun d v F1 H1 g1 S1 P1 P01 r1 q1 => ?_⟩
  have r1 : Rep X.K F1 v d := r1
  cases d with
  | bl c =>
    cases r1
    refine ⟨c, rfl, ?_⟩
    cases c with
    | true => rw [if_pos rfl]; exact ⟨F1, g1, S1, Pst_from P01 (fun _ _ _ _ _ z => z) q1⟩
    | false => rw [if_neg (by decide)]; exact q1 _ F1 H1 S1 P01 (.bl false)
  | _ => exact q1.elim
theorem se_not (ha : SE X W a pa) : SE X W (.UnaryOp .Not a pos) (mNotD pa) := PE_imp (pe_not ha) fun σ H Q q => by
  obtain ⟨F, g, S, q⟩ := q
  refine ⟨F, g, S, Pst_bind Stp.refl q fun d v F1 H1 g1 S1 P1 P01 r1 q1 => ?_⟩
  have r1 : Rep X.K F1 v d := r1
  cases d with
  | bl c => cases r1; exact ⟨c, rfl, q1 _ F1 H1 S1 P01 (.bl _)⟩
  | _ => exact q1.elim
def mIf {α : Type} (c : M Bool) (ma mb : M α) : M α := c.bind fun k => if k = true then ma else mb
variable {es : List Expr} {mr : M (List Hd)}
def mCons (ma : M Hd) (mr : M (List Hd)) : M (List Hd) := ma.bind fun h => mr.bind fun hs => M.ret (h :: hs)
theorem sa_nil : SA X W [] (M.ret []) := PA_imp pa_nil fun σ H Q q => by
  obtain ⟨F, g, S, q⟩ := q
  exact q [] F H S Stp.refl .nil
theorem sa_cons (ha : SO X W a ma) (hr : SA X W es mr) (hs : starEach (a :: es) X.env = (false, eval a X.env) :: starEach es X.env := by rfl) : SA X W (a :: es) (mCons ma mr) := PA_imp (pa_cons ha hr hs) fun σ H Q q => by
  obtain ⟨F, g, S, q⟩ := q
  exact ⟨F, g, S, Pst_bind Stp.refl q fun h v F1 H1 g1 S1 P1 P01 r1 q1 => ⟨F1, g1, S1, Pst_bind P01 q1 fun hs vs F2 H2 g2 S2 P2 P02 r2 q2 => q2 _ F2 H2 S2 P02 (.cons (HdR.mono P2.fg r1) r2)⟩⟩
/-- frozen items -/
def mFrzs : List Hd → M (List D)
  | [] => M.ret []
  | h :: hs => (mFrz h).bind fun d => (mFrzs hs).bind fun ds => M.ret (d :: ds)
def relL (K : Frag) : Rl (List D) (List V) := fun _ _ F' _ _ ds vs => Reps K F' vs ds
theorem mFrzs_ok {R : List V → Hp → Prop} {hs : List Hd} {vs : List V} {F F0 H0 : Hp} {g g0 : Gm} (S : Sta X.K F g σ H) (P : Stp F0 H0 g0 σ F H g σ) (r : HdsR X.K F σ hs vs) (q : Pst X.K W σ (relL X.K) F0 H0 g0 R (mFrzs hs g)) : R vs H := by
  induction hs generalizing vs F F0 H0 g g0 R with
  | nil => cases r; exact q [] F H S P .nil
  | cons h hs ih =>
    cases r with
    | cons r rs =>
      rename_i v vs
      have q2 : Pst X.K W σ (relE X.K) F H g (fun v' H' => v' = v → H' = H → R (v :: vs) H) (mFrz h g) := Pst_bind P q fun d v' F1 H1 g1 S1 P1 P01 r1 q1 => by
        intro ev eh
        subst ev
        subst eh
        exact ih (R := fun ws H' => R (v' :: ws) H') S1 Stp.refl (HdsR.mono P1.fg rs) (Pst_bind P01 q1 fun ds ws F2 H2 g2 S2 P2 P02 r2 q2 => q2 _ F2 H2 S2 P02 (.cons (Rep.mono P2.fg r1) r2))
      exact mFrz_ok S Stp.refl r q2 rfl rfl
def mTup (mr : M (List Hd)) : M D := mr.bind fun hs => (mFrzs hs).bind fun ds => if ds.length ≤ 1000000 then M.ret (.tup ds) else M.fail
def mLst (mr : M (List Hd)) : M D := mr.bind fun hs => (mFrzs hs).bind fun ds => if ds.length ≤ 1000000 then M.ret (.lst ds) else M.fail
theorem line_le {n : Nat} (h : n ≤ 1000000) : n ≤ sizeLine := Nat.le_trans h (by decide)
theorem se_tup {k : Nat} (h : SA X W es mr) : SE X W (.Tuple es k pos) (mTup mr) := PE_imp (pe_tup h) fun σ H Q q => by
  obtain ⟨F, g, S, q⟩ := q
  refine ⟨F, g, S, Pst_bind Stp.refl q fun hs vs F1 H1 g1 S1 P1 P01 r1 q1 => ?_⟩
  refine mFrzs_ok (W := W) (R := fun vs H1 => vs.length ≤ sizeLine ∧ ∀ p, H1 p = none → Q (.ref p) (upd H1 p (.tup vs))) S1 Stp.refl r1 (Pst_bind P01 q1 fun ds ws F2 H2 g2 S2 P2 P02 r2 q2 => ?_)
  by_cases l : ds.length ≤ 1000000
  · rw [if_pos l] at q2
    have r2 : Reps X.K F2 ws ds := r2
    refine ⟨by rw [r2.length]; exact line_le l, fun p np => ?_⟩
    have A := Al.mk1 (o := HO.tup ws) S2.sub np
    exact q2 _ _ _ (S2.al A).1 (P02.trans (S2.al A).2) (Rep.tup (.inl (.inl upd_same)) (r2.mono A.fg))
  · rw [if_neg l] at q2; exact q2.elim
/-- a new object that is a cell -/
theorem Al.mkN {p : Addr} {o : HO} (s : Sub F H) (n : H p = none) : Al F H F (upd H p o) := by
  refine ⟨Sub.refl _, fun a u e => ?_, fun a u e => ?_, fun x o h1 nt h2 => h2, fun K t => t.upd (fun u e => by rw [n] at e; cases e) fun _ _ z => z⟩
  · rw [upd_ne (ne_of_none e n)]; exact e
  · rw [upd_ne (ne_of_none (s _ _ e) n)]; exact s _ _ e
theorem sub_none (s : Sub F H) {p : Addr} (n : H p = none) : F p = none := by
  cases e : F p with
  | none => rfl
  | some u => rw [s _ _ e] at n; cases n
theorem foot_upd {p x : Addr} {o : HO} (h : ∀ C d fv, o ≠ .ins C d fv) (f : Foot (upd H p o) p x) : x = p := by
  rcases f with f | ⟨C, dx0, fv, e, qf⟩
  · exact f
  · rw [upd_same] at e; cases e; exact absurd rfl (h _ _ _)
theorem newN {p : Addr} {o : HO} {d : D} (S : Sta X.K F g σ H) (P : Stp F0 H0 g0 σ F H g σ) (n : H p = none) (h : ∀ C d fv, o ≠ .ins C d fv) (c : Cell X.K F (upd H p o) p d) :
    Sta X.K F g σ (upd H p o) ∧ Stp F0 H0 g0 σ F (upd H p o) g σ ∧ relN X.K σ H0 F (upd H p o) g d (.ref p) := by
  have A := Al.mkN (o := o) S.sub n
  refine ⟨(S.al A).1, P.trans (S.al A).2, p, rfl, c, fun x f => ?_⟩
  cases foot_upd h f
  refine ⟨sub_none S.sub n, fun o => ?_, ?_⟩
  · obtain ⟨u, hu⟩ := S.own_at (S.own_al A.hg o)
    rw [n] at hu; cases hu
  · exact Classical.byContradiction fun h0 => P.st _ h0 n
theorem sn_lst (h : SA X W es mr) : SN X W (.List es pos) (mLst mr) := PE_imp (pe_lst h) fun σ H Q q => by
  obtain ⟨F, g, S, q⟩ := q
  refine ⟨F, g, S, Pst_bind Stp.refl q fun hs vs F1 H1 g1 S1 P1 P01 r1 q1 => ?_⟩
  refine mFrzs_ok (W := W) (R := fun vs H1 => vs.length ≤ sizeLine ∧ ∀ p, H1 p = none → Q (.ref p) (upd H1 p (.lst vs))) S1 Stp.refl r1 (Pst_bind P01 q1 fun ds ws F2 H2 g2 S2 P2 P02 r2 q2 => ?_)
  by_cases l : ds.length ≤ 1000000
  · rw [if_pos l] at q2
    have r2 : Reps X.K F2 ws ds := r2
    refine ⟨by rw [r2.length]; exact line_le l, fun p np => ?_⟩
    obtain ⟨S3, P3, r3⟩ := newN (o := HO.lst ws) (d := .lst ds) S2 P02 np (fun _ _ _ z => nomatch z) ⟨ws, upd_same, r2⟩
    exact q2 _ _ _ S3 P3 r3
  · rw [if_neg l] at q2; exact q2.elim
end
end Cq

set_option Elab.async false
set_option linter.all false
set_option maxRecDepth 100000
namespace Cq
open PySem PySem.Spec PyProof.Rows L2
inductive Fl where
  | nx | rt (d : D) | rn (d : D) | bk | ct
def PstS (K : Frag) (W : WX) (F0 H0 : Hp) (g0 : Gm) (σ0 : L2.St) (E : Ends) : Option (Res Fl) → Prop
  | none => False
  | some (.ex c g') => ∀ F' σ' H', Sta K F' g' σ' H' → Stp F0 H0 g0 σ0 F' H' g' σ' → W (exv K c) none σ' H'
  | some (.ok .nx g') => ∀ F' σ' H', Sta K F' g' σ' H' → Stp F0 H0 g0 σ0 F' H' g' σ' → E.nx σ' H'
  | some (.ok .bk g') => ∀ F' σ' H', Sta K F' g' σ' H' → Stp F0 H0 g0 σ0 F' H' g' σ' → E.bk σ' H'
  | some (.ok .ct g') => ∀ F' σ' H', Sta K F' g' σ' H' → Stp F0 H0 g0 σ0 F' H' g' σ' → E.ct σ' H'
  | some (.ok (.rt d) g') => ∀ v F' σ' H', Sta K F' g' σ' H' → Stp F0 H0 g0 σ0 F' H' g' σ' → Rep K F' v d → E.rt v H'
  | some (.ok (.rn d) g') => ∀ v F' σ' H', Sta K F' g' σ' H' → Stp F0 H0 g0 σ0 F' H' g' σ' → (∃ a, v = .ref a ∧ Cell K F' H' a d ∧ ∀ x, Foot H' a x → F' x = none ∧ (Own g0 σ0 H0 x ∨ H0 x = none) ∧ ∀ (i : Nat) (d' : D), g'[i]? = some (Sl.mb d') → ∀ b, σ'[i]? = some (some (V.ref b)) → ¬ Foot H' b x) → E.rt v H'
def tS (K : Frag) (W : WX) (m : M Fl) : TS := fun E σ H => ∃ F g, Sta K F g σ H ∧ PstS K W F H g σ E (m g)
def SS (X : Cx) (W : WX) (s : Stmt) (m : M Fl) : Prop := PS X s (tS X.K W m)
def SSs (X : Cx) (W : WX) (s : List Stmt) (m : M Fl) : Prop := PSs X s (tS X.K W m)
def mSeq (m n : M Fl) : M Fl := fun g => match m g with
  | some (.ok .nx g') => n g'
  | o => o
theorem PstS_from {K : Frag} {W : WX} {F0 H0 F H : Hp} {g0 g : Gm} {σ0 σ : L2.St} {E : Ends} {o : Option (Res Fl)} (P : Stp F0 H0 g0 σ0 F H g σ) (q : PstS K W F0 H0 g0 σ0 E o) : PstS K W F H g σ E o := by
  cases o with
  | none => exact q
  | some r => cases r with
    | ex c g => exact fun F' σ' H' S' P' => q F' σ' H' S' (P.trans P')
    | ok f g => cases f with
      | nx => exact fun F' σ' H' S' P' => q F' σ' H' S' (P.trans P')
      | bk => exact fun F' σ' H' S' P' => q F' σ' H' S' (P.trans P')
      | ct => exact fun F' σ' H' S' P' => q F' σ' H' S' (P.trans P')
      | rt d => exact fun v F' σ' H' S' P' r => q v F' σ' H' S' (P.trans P') r
      | rn d => exact fun v F' σ' H' S' P' ⟨a, e, c, k⟩ => q v F' σ' H' S' (P.trans P') ⟨a, e, c, fun x f => ⟨(k x f).1, by
          rcases (k x f).2.1 with o | o
          · exact P.own x o
          · exact .inr (Classical.byContradiction fun h0 => P.st x h0 o), (k x f).2.2⟩⟩
section
variable {X : Cx} {W : WX} {pos : Pos} {σ : L2.St} {F H F0 H0 : Hp} {g g0 : Gm} {s : Stmt} {ss : List Stmt} {m n : M Fl} {e : Expr}
theorem mSeq_ok {E : Ends} (q : PstS X.K W F0 H0 g0 σ E (mSeq m n g0)) : PstS X.K W F0 H0 g0 σ { E with nx := fun σ' H' => tS X.K W n E σ' H' } (m g0) := by
  unfold mSeq at q
  cases o : m g0 with
  | none => rw [o] at q; exact q
  | some r =>
    rw [o] at q
    cases r with
    | ex c g => exact q
    | ok f g => cases f with
      | nx => exact fun F' σ' H' S' P' => ⟨F', g, S', PstS_from P' q⟩
      | bk => exact q
      | ct => exact q
      | rt d => exact q
      | rn d => exact q
theorem ss_cons (h1 : SS X W s m) (h2 : SSs X W ss n) : SSs X W (s :: ss) (mSeq m n) := PSs_imp (pss_cons h1 h2) fun E σ H q => by
  obtain ⟨F, g, S, q⟩ := q
  exact ⟨F, g, S, mSeq_ok q⟩
theorem ss_one (h1 : SS X W s m) : SSs X W [s] m := pss_one h1
theorem ss_nil : SSs X W [] (M.ret .nx) := PSs_imp pss_nil fun E σ H q => by
  obtain ⟨F, g, S, q⟩ := q
  exact q F σ H S Stp.refl
/-- from an expression's answer to a statement's end -/
theorem Pst_stm {α β : Type} {rel : Rl α β} {E : Ends} {R : β → Hp → Prop} {p : M α} {f : α → M Fl} (P0 : Stp F0 H0 g0 σ F H g σ) (q : PstS X.K W F0 H0 g0 σ E (p.bind f g))
    (k : ∀ d v F1 H1 g1, Sta X.K F1 g1 σ H1 → Stp F H g σ F1 H1 g1 σ → Stp F0 H0 g0 σ F1 H1 g1 σ → rel σ H F1 H1 g1 d v → PstS X.K W F0 H0 g0 σ E (f d g1) → R v H1) : Pst X.K W σ rel F H g R (p g) := by
  unfold M.bind at q
  cases o : p g with
  | none => rw [o] at q; exact q
  | some r =>
    rw [o] at q
    cases r with
    | ok d g1 => exact fun v F1 H1 S1 P1 r1 => k d v F1 H1 g1 S1 P1 (P0.trans P1) r1 q
    | ex c g1 => exact fun F1 H1 S1 P1 => q F1 σ H1 S1 (P0.trans P1)
theorem ss_ret {p : M D} (h : SE X W e p) : SS X W (.Return (some e) pos) (p.bind fun d => M.ret (.rt d)) := PS_imp (ps_ret h) fun E σ H q => by
  obtain ⟨F, g, S, q⟩ := q
  exact ⟨F, g, S, Pst_stm Stp.refl q fun d v F1 H1 g1 S1 P1 P01 r1 q1 => q1 v F1 σ H1 S1 P1 r1⟩
theorem ss_retN {p : M D} (h : SN X W e p) : SS X W (.Return (some e) pos) (p.bind fun d => M.ret (.rn d)) := PS_imp (ps_ret h) fun E σ H q => by
  obtain ⟨F, g, S, q⟩ := q
  refine ⟨F, g, S, Pst_stm Stp.refl q fun d v F1 H1 g1 S1 P1 P01 r1 q1 => ?_⟩
  obtain ⟨a, ev, c, k⟩ := r1
  refine q1 v F1 σ H1 S1 P1 ⟨a, ev, c, fun x f => ⟨(k x f).1, .inr (k x f).2.2, fun i d' hi b hb fb => (k x f).2.1 ⟨i, d', b, ?_, hb, fb⟩⟩⟩
  rw [hi]; rfl
theorem ss_expr {p : M D} (h : SE X W e p) (hs : swapsWith e none pos.line X.env = pure false := by rfl) : SS X W (.Expr e pos) (p.bind fun _ => M.ret .nx) := PS_imp (ps_expr h hs) fun E σ H q => by
  obtain ⟨F, g, S, q⟩ := q
  exact ⟨F, g, S, Pst_stm Stp.refl q fun d v F1 H1 g1 S1 P1 P01 r1 q1 => q1 F1 σ H1 S1 P1⟩
theorem ss_if {c : Expr} {a b : List Stmt} {nb : M Bool} (hc : SB X W c nb) (ha : SSs X W a m) (hb : SSs X W b n) : SS X W (.If c a b pos) (nb.bind fun k => if k = true then m else n) := PS_imp (ps_if hc ha hb) fun E σ H q => by
  obtain ⟨F, g, S, q⟩ := q
  refine ⟨F, g, S, Pst_stm Stp.refl q fun k v F1 H1 g1 S1 P1 P01 r1 q1 => ?_⟩
  cases (show k = v from r1)
  cases k with
  | true => rw [if_pos rfl]; exact ⟨F1, g1, S1, PstS_from P1 q1⟩
  | false => rw [if_neg (by decide)]; exact ⟨F1, g1, S1, PstS_from P1 q1⟩

theorem sset_get {σ : L2.St} {i j : Nat} {s : Option V} {t : Option V} (h : (σ.set i s)[j]? = some t) : (j = i ∧ t = s) ∨ (j ≠ i ∧ σ[j]? = some t) := by
  by_cases e : i = j
  · subst e
    by_cases l : i < σ.length
    · rw [List.getElem?_set_self l] at h; cases h; exact .inl ⟨rfl, rfl⟩
    · rw [List.getElem?_eq_none (by simpa using l)] at h; cases h
  · rw [List.getElem?_set_ne e] at h; exact .inr ⟨fun z => e z.symm, h⟩
theorem gset_bind {g : Gm} {i j : Nat} {s : Sl} {d : D} (h : ((g.set i s)[j]?).bind Sl.cell = some d) : (j = i ∧ s.cell = some d) ∨ (j ≠ i ∧ (g[j]?).bind Sl.cell = some d) := by
  cases q : (g.set i s)[j]? with
  | none => rw [q] at h; cases h
  | some t =>
    rw [q] at h
    rcases set_get q with ⟨e1, e2⟩ | ⟨e1, e2⟩
    · subst e2; exact .inl ⟨e1, h⟩
    · exact .inr ⟨e1, by rw [e2]; exact h⟩
/-- a slot takes another content: a frozen one, none, or a cell that nobody else has -/
theorem Sta.store {K : Frag} (S : Sta K F g σ H) (i : Nat) (s : Sl) (v : Option V) (k : i < σ.length → SlotOk K F H (some v) s) (nro : ∀ d, s ≠ Sl.ro d)
    (fresh : ∀ d a, s.cell = some d → v = some (.ref a) → ∀ x, Foot H a x → ¬ Own g σ H x ∧ ∀ (j : Nat) (d : D) (b : Addr), g[j]? = some (Sl.ro d) → σ[j]? = some (some (V.ref b)) → b = x → Rep K F (.ref b) d) : Sta K F (g.set i s) (σ.set i v) H := by
  have ow : ∀ x, Own (g.set i s) (σ.set i v) H x → Own g σ H x ∨ ∃ d a, s.cell = some d ∧ v = some (.ref a) ∧ Foot H a x := fun x ⟨j, d, a, c, e, f⟩ => by
    rcases gset_bind c with ⟨e1, e2⟩ | ⟨e1, e2⟩
    · rcases sset_get e with ⟨_, e4⟩ | ⟨e3, _⟩
      · exact .inr ⟨d, a, e2, e4.symm, f⟩
      · exact absurd e1 e3
    · rcases sset_get e with ⟨e3, _⟩ | ⟨_, e4⟩
      · exact absurd e3 e1
      · exact .inl ⟨j, d, a, e2, e4, f⟩
  refine ⟨S.sub, by simpa using S.len, fun j t e => ?_, fun j l d e a b x jl c1 c2 e1 e2 f1 f2 => ?_, fun j d a e1 e2 => ?_, S.tb⟩
  · rcases set_get e with ⟨e1, e2⟩ | ⟨e1, e2⟩
    · subst e1; subst e2
      have l : j < σ.length := by
        have := List.getElem?_eq_some_iff.mp e
        obtain ⟨h, _⟩ := this
        rw [List.length_set, S.len] at h; exact h
      rw [List.getElem?_set_self l]; exact k l
    · rw [List.getElem?_set_ne fun z => e1 z.symm]; exact S.slot j t e2
  · rcases gset_bind c1 with ⟨h1, h2⟩ | ⟨h1, h2⟩
    · rcases gset_bind c2 with ⟨h3, h4⟩ | ⟨h3, h4⟩
      · exact jl (h1.trans h3.symm)
      · rcases sset_get e1 with ⟨_, h6⟩ | ⟨h5, _⟩
        · rcases sset_get e2 with ⟨h7, _⟩ | ⟨_, h8⟩
          · exact h3 h7
          · exact (fresh d a h2 h6.symm x f1).1 ⟨l, e, b, h4, h8, f2⟩
        · exact h5 h1
    · rcases gset_bind c2 with ⟨h3, h4⟩ | ⟨h3, h4⟩
      · rcases sset_get e2 with ⟨_, h6⟩ | ⟨h5, _⟩
        · rcases sset_get e1 with ⟨h7, _⟩ | ⟨_, h8⟩
          · exact h1 h7
          · exact (fresh e b h4 h6.symm x f2).1 ⟨j, d, a, h2, h8, f1⟩
        · exact h5 h3
      · rcases sset_get e1 with ⟨h7, _⟩ | ⟨_, h8⟩
        · exact h1 h7
        · rcases sset_get e2 with ⟨h5, _⟩ | ⟨_, h6⟩
          · exact h3 h5
          · exact S.inj j l d e a b x jl h2 h4 h8 h6 f1 f2
  · rcases set_get e1 with ⟨_, h2⟩ | ⟨h1, h2⟩
    · exact absurd h2.symm (nro d)
    · rcases sset_get e2 with ⟨h3, _⟩ | ⟨_, h4⟩
      · exact absurd h3 h1
      · rcases S.ro j d a h2 h4 with r | r
        · exact .inl r
        · refine (Classical.em (Rep K F (.ref a) d)).imp id fun nr o => ?_
          rcases ow a o with o | ⟨d', a', c, ev, f⟩
          · exact r o
          · exact nr ((fresh d' a' c ev a f).2 j d a h2 h4 rfl)
theorem store_kro {i j : Nat} {s t : Sl} {v : Option V} (h : (g.set i s)[j]? = some t) (ne : s ≠ t) : g[j]? = some t ∧ (σ.set i v)[j]? = σ[j]? := by
  rcases set_get h with ⟨_, h2⟩ | ⟨h1, h2⟩
  · exact absurd h2.symm ne
  · exact ⟨h2, List.getElem?_set_ne fun z => h1 z.symm⟩
theorem Sta.setIm {K : Frag} (S : Sta K F g σ H) (i : Nat) {v : V} {d : D} (r : Rep K F v d) : Sta K F (g.set i (.im d)) (σ.set i (some v)) H ∧ Stp F H g σ F H (g.set i (.im d)) (σ.set i (some v)) := by
  refine ⟨S.store i (.im d) (some v) (fun _ => ⟨v, rfl, r⟩) (fun _ z => nomatch z) (fun _ _ z => nomatch z), Sub.refl _, fun _ h => h, fun x o h1 _ h2 h3 => ⟨h1, h2⟩, fun x ⟨j, e, a, c, q, f⟩ => ?_, fun j e q => ?_, fun j e q => ?_, fun _ _ _ fv h => ⟨fv, h, fun _ q => q⟩⟩
  · rcases gset_bind c with ⟨_, e2⟩ | ⟨e1, e2⟩
    · cases e2
    · rcases sset_get q with ⟨e3, _⟩ | ⟨_, e4⟩
      · exact absurd e3 e1
      · exact .inl ⟨j, e, a, e2, e4, f⟩
  · exact store_kro q (fun z => nomatch z)
  · obtain ⟨h1, h2⟩ := store_kro (σ := σ) (v := some v) q (fun z => nomatch z); exact ⟨⟨e, h1⟩, h2⟩
/-- a cell that is known to nobody is taken by a name; it was not there at (F0, H0) -/
theorem Sta.setOw {K : Frag} (S : Sta K F g σ H) (P : Stp F0 H0 g0 σ F H g σ) (i : Nat) {a : Addr} {d : D} (c : Cell K F H a d) (n : ∀ x, Foot H a x → F x = none ∧ ¬ Own g σ H x ∧ H0 x = none) (S0 : Sta K F0 g0 σ H0) :
    Sta K F (g.set i (.ow d)) (σ.set i (some (.ref a))) H ∧ Stp F0 H0 g0 σ F H (g.set i (.ow d)) (σ.set i (some (.ref a))) := by
  have nro : ∀ x, Foot H a x → ∀ (j : Nat) (d : D) (b : Addr), g[j]? = some (Sl.ro d) → σ[j]? = some (some (V.ref b)) → b = x → Rep K F (.ref b) d := fun x f j d' b h1 h2 z => by
    subst z
    obtain ⟨h3, _⟩ := P.kro j d' h1
    obtain ⟨v, ev, r⟩ := S0.slot j _ h3
    rw [h2] at ev; cases ev
    rcases r with r | ⟨a', ea, ca, _⟩
    · exact r.mono P.fg
    · cases ea
      obtain ⟨u, hu⟩ := ca.at
      rw [(n _ f).2.2] at hu; cases hu
  refine ⟨S.store i (.ow d) (some (.ref a)) (fun _ => ⟨a, rfl, c, fun x f => (n x f).1⟩) (fun _ z => nomatch z) (fun d' a' _ ev x f => by cases ev; exact ⟨(n x f).2.1, nro x f⟩), P.fg, P.st, P.fr, fun x ⟨j, e, b, cb, q, f⟩ => ?_, fun j e q => ?_, fun j e q => ?_, P.ki⟩
  · rcases gset_bind cb with ⟨h1, h2⟩ | ⟨h1, h2⟩
    · rcases sset_get q with ⟨_, h4⟩ | ⟨h3, _⟩
      · cases h4; exact .inr (n x f).2.2
      · exact absurd h1 h3
    · rcases sset_get q with ⟨h3, _⟩ | ⟨_, h4⟩
      · exact absurd h3 h1
      · exact P.own x ⟨j, e, b, h2, h4, f⟩
  · obtain ⟨h1, h2⟩ := store_kro (σ := σ) (v := some (V.ref a)) q (fun z => nomatch z)
    obtain ⟨h3, h4⟩ := P.kro j e h1; exact ⟨h3, h2.trans h4⟩
  · obtain ⟨h1, h2⟩ := store_kro (σ := σ) (v := some (V.ref a)) q (fun z => nomatch z)
    obtain ⟨h3, h4⟩ := P.kmb j e h1; exact ⟨h3, h2.trans h4⟩
end
end Cq

set_option Elab.async false
set_option linter.all false
set_option maxRecDepth 100000
namespace Cq
open PySem PySem.Spec PyProof.Rows L2
section
variable {X : Cx} {W : WX} {pos : Pos} {σ : L2.St} {F H F0 H0 : Hp} {g g0 : Gm} {e : Expr}
def mSet (i : Nat) (p : M D) : M Fl := p.bind fun d => fun g => some (.ok .nx (g.set i (.im d)))
def mSetN (i : Nat) (p : M D) : M Fl := p.bind fun d => fun g => some (.ok .nx (g.set i (.ow d)))
theorem tSet_ok {i : Nat} {p : M D} {E : Ends} (q : tS X.K W (mSet i p) E σ H) : tAsg (tG X.K W (relE X.K) p) (gName i) E σ H := by
  obtain ⟨F, g, S, q⟩ := q
  refine ⟨F, g, S, Pst_stm Stp.refl q fun d v F1 H1 g1 S1 P1 P01 r1 q1 => ?_⟩
  obtain ⟨S2, P2⟩ := S1.setIm i r1
  exact q1 F1 _ H1 S2 (P1.trans P2)
theorem tSetN_ok {i : Nat} {p : M D} {E : Ends} (q : tS X.K W (mSetN i p) E σ H) : tAsg (tG X.K W (relN X.K) p) (gName i) E σ H := by
  obtain ⟨F, g, S, q⟩ := q
  refine ⟨F, g, S, Pst_stm Stp.refl q fun d v F1 H1 g1 S1 P1 P01 r1 q1 => ?_⟩
  obtain ⟨a, ev, c, n⟩ := r1
  subst ev
  obtain ⟨S2, P2⟩ := S1.setOw P1 i c n S
  exact q1 F1 _ H1 S2 P2
theorem ss_set {x : Str} {p : M D} {pos' : Pos} (i : Nat) (hN : X.N.Nodup) (hi : X.N[i]? = some x) (hx : Loc X.env.scope x) (he : SE X W e p) (hs : swapsWith e (some (.Name x pos')) pos.line X.env = pure false := by rfl) (hf : X.fn x = true ∨ X.env.scope.names.lookup x = some .local := by first | exact .inl rfl | exact .inr rfl | assumption) :
    SS X W (.Assign [.Name x pos'] e pos) (mSet i p) := PS_imp (ps_set hN hi hx he hs hf) fun _ _ _ q => tSet_ok q
theorem ss_setN {x : Str} {p : M D} {pos' : Pos} (i : Nat) (hN : X.N.Nodup) (hi : X.N[i]? = some x) (hx : Loc X.env.scope x) (he : SN X W e p) (hs : swapsWith e (some (.Name x pos')) pos.line X.env = pure false := by rfl) (hf : X.fn x = true ∨ X.env.scope.names.lookup x = some .local := by first | exact .inl rfl | exact .inr rfl | assumption) :
    SS X W (.Assign [.Name x pos'] e pos) (mSetN i p) := PS_imp (ps_set hN hi hx he hs hf) fun _ _ _ q => tSetN_ok q

abbrev Tgt := D → Gm → Option Gm
/-- the slots differ at these places alone -/
def At (ns : List Nat) (σ σ' : L2.St) : Prop := σ'.length = σ.length ∧ ∀ (j : Nat), j ∉ ns → σ'[j]? = σ[j]?
def tTg (K : Frag) (ns : List Nat) (T : Tgt) : TG := fun v σ H Q => ∃ F g d g', Sta K F g σ H ∧ Rep K F v d ∧ T d g = some g' ∧ ∀ σ', Sta K F g' σ' H → Stp F H g σ F H g' σ' → At ns σ σ' → Q σ' H
def tTgs (K : Frag) (ns : List Nat) (T : List D → Gm → Option Gm) : TGs := fun vs σ H Q => ∃ F g ds g', Sta K F g σ H ∧ Reps K F vs ds ∧ T ds g = some g' ∧ ∀ σ', Sta K F g' σ' H → Stp F H g σ F H g' σ' → At ns σ σ' → Q σ' H
def SG (X : Cx) (tg : Expr) (ns : List Nat) (T : Tgt) : Prop := PG X tg (tTg X.K ns T)
def SGs (X : Cx) (tg : List Expr) (ns : List Nat) (T : List D → Gm → Option Gm) : Prop := PGs X tg (tTgs X.K ns T)
def tgNm (i : Nat) : Tgt := fun d g => some (g.set i (.im d))
def tgTup (n : Nat) (T : List D → Gm → Option Gm) : Tgt := fun d g => match d with
  | .tup ds => if ds.length = n then T ds g else none
  | _ => none
def tgNil : List D → Gm → Option Gm := fun ds g => match ds with
  | [] => some g
  | _ => none
def tgCons (t : Tgt) (u : List D → Gm → Option Gm) : List D → Gm → Option Gm := fun ds g => match ds with
  | d :: ds => (t d g).bind (u ds)
  | _ => none
theorem PG_imp {tg : Expr} {t t' : TG} (h : PG X tg t) (k : ∀ v σ H Q, t' v σ H Q → t v σ H Q) : PG X tg t' := ⟨fun pins s σ H v u Q I r q => h.run pins s σ H v u Q I r (k v σ H Q q)⟩
theorem PGs_imp {tg : List Expr} {t t' : TGs} (h : PGs X tg t) (k : ∀ v σ H Q, t' v σ H Q → t v σ H Q) : PGs X tg t' := ⟨fun pins s σ H v u Q I r q => h.run pins s σ H v u Q I r (k v σ H Q q)⟩
theorem sg_nm {x : Str} (i : Nat) (hN : X.N.Nodup) (hi : X.N[i]? = some x) (hx : Loc X.env.scope x) (hf : X.fn x = true ∨ X.env.scope.names.lookup x = some .local := by first | exact .inl rfl | exact .inr rfl | assumption) : SG X (.Name x pos) [i] (tgNm i) := PG_imp (pg_name hN hi hx hf) fun v σ H Q q => by
  obtain ⟨F, g, d, g', S, r, e, q⟩ := q
  cases e
  obtain ⟨S2, P2⟩ := S.setIm i r
  exact q _ S2 P2 ⟨by simp, fun j h => List.getElem?_set_ne fun z => h (by simp [z])⟩
theorem sg_nil : SGs X [] [] tgNil := PGs_imp pgs_nil fun v σ H Q q => by
  obtain ⟨F, g, d, g', S, r, e, q⟩ := q
  cases r with
  | nil => cases e; exact ⟨rfl, q σ S Stp.refl ⟨rfl, fun _ _ => rfl⟩⟩
  | cons _ _ => cases e
theorem sg_cons {a : Expr} {es : List Expr} {t : Tgt} {u : List D → Gm → Option Gm} {n1 n2 : List Nat} (h1 : SG X a n1 t) (h2 : SGs X es n2 u) (hs : (assignEach (a :: es) X.env).map (·.2) = assign a X.env :: (assignEach es X.env).map (·.2) := by rfl) : SGs X (a :: es) (n1 ++ n2) (tgCons t u) := PGs_imp (pgs_cons h1 h2 hs) fun v σ H Q q => by
  obtain ⟨F, g, d, g', S, r, e, q⟩ := q
  cases r with
  | nil => cases e
  | cons r rs =>
    unfold tgCons at e
    rename_i v d vs ds
    cases o : t d g with
    | none => simp only [o] at e; cases e
    | some g1 =>
      simp only [o] at e
      refine ⟨_, _, rfl, F, g, d, g1, S, r, o, fun σ1 S1 P1 A1 => ⟨F, g1, ds, g', S1, rs, e, fun σ2 S2 P2 A2 => q σ2 S2 (P1.trans P2) ⟨A2.1.trans A1.1, fun j h => (A2.2 j fun z => h (List.mem_append_right _ z)).trans (A1.2 j fun z => h (List.mem_append_left _ z))⟩⟩⟩
theorem sg_tup {es : List Expr} {k : Nat} {T : List D → Gm → Option Gm} {n : Nat} {ns : List Nat} (hc : X.calm = true) (h : SGs X es ns T) (hn : (assignEach es X.env).length = n := by rfl) (hst : (assignEach es X.env).findIdx? (·.1) = none := by rfl) : SG X (.Tuple es k pos) ns (tgTup n T) := PG_imp (pg_tup hc h hn hst) fun v σ H Q q => by
  obtain ⟨F, g, d, g', S, r, e, q⟩ := q
  unfold tgTup at e
  cases r with
  | tup hs rs =>
    rename_i a vs ds
    by_cases l : ds.length = n
    · simp only [if_pos l] at e
      exact ⟨a, vs, rfl, S.sub.tup hs, rs.length.trans l, F, g, ds, g', S, rs, e, q⟩
    · simp only [if_neg l] at e; cases e
  | _ => cases e
def mAsg (T : Tgt) (p : M D) : M Fl := p.bind fun d => fun g => match T d g with
  | some g' => some (.ok .nx g')
  | none => none
def lendOut (l : Option Nat) (g : Gm) : Gm := match l with
  | none => g
  | some i => match g[i]? with
    | some (.ow d) => g.set i (.ro d)
    | some (.mb d) => g.set i (.ro d)
    | _ => g
/-- what was lent comes back: g0 ahead, g behind -/
def lendIn (l : Option Nat) (g0 g : Gm) : Option Gm := match l with
  | none => some g
  | some i => match g0[i]? with
    | some (.ow d) => (match g[i]? with
      | some (.ro _) => some (g.set i (.ow d))
      | _ => none)
    | some (.mb d) => (match g[i]? with
      | some (.ro _) => some (g.set i (.mb d))
      | _ => none)
    | _ => some g
theorem own_lend {K : Frag} (S : Sta K F g σ H) {i : Nat} {d : D} {a : Addr} (hc : (g[i]?).bind Sl.cell = some d) (ha : σ[i]? = some (some (V.ref a))) {x : Addr} (o : Own (g.set i (.ro d)) σ H x) : Own g σ H x ∧ ¬ Foot H a x := by
  obtain ⟨j, e, b, c, q, f⟩ := o
  rcases gset_bind c with ⟨_, h⟩ | ⟨h1, h2⟩
  · cases h
  · exact ⟨⟨j, e, b, h2, q, f⟩, fun fa => S.inj j i e d b a x h1 h2 hc q ha f fa⟩
theorem Sta.lend {K : Frag} (S : Sta K F g σ H) {i : Nat} {d : D} {a : Addr} (hc : (g[i]?).bind Sl.cell = some d) (ha : σ[i]? = some (some (V.ref a))) (fl : d.flat = true) :
    Sta K F (g.set i (.ro d)) σ H := by
  obtain ⟨a', e1, c, n⟩ := S.cell hc
  rw [ha] at e1; cases e1
  have fa := flat_lst c fun c' fs' z => by rw [z] at fl; cases fl
  refine ⟨S.sub, by simpa using S.len, fun j t e => ?_, fun j l d1 d2 b1 b2 x jl c1 c2 e1 e2 f1 f2 => ?_, fun j d' b e1 e2 => ?_, S.tb⟩
  · rcases set_get e with ⟨h1, h2⟩ | ⟨h1, h2⟩
    · subst h1; subst h2; exact ⟨_, ha, .inr ⟨a, rfl, c, fa⟩⟩
    · exact S.slot j t h2
  · rcases gset_bind c1 with ⟨_, h⟩ | ⟨h1, h2⟩
    · cases h
    · rcases gset_bind c2 with ⟨_, h⟩ | ⟨h3, h4⟩
      · cases h
      · exact S.inj j l d1 d2 b1 b2 x jl h2 h4 e1 e2 f1 f2
  · rcases set_get e1 with ⟨h1, h2⟩ | ⟨h1, h2⟩
    · subst h1; cases h2
      rw [ha] at e2; cases e2
      exact .inr fun o => (own_lend S hc ha o).2 (.inl rfl)
    · exact (S.ro j d' b h2 e2).imp id fun r o => r (own_lend S hc ha o).1
/-- behind the walk -/
theorem Sta.back {K : Frag} {F' H' : Hp} {g' : Gm} {σ' : L2.St} (S : Sta K F g σ H) {i : Nat} {d : D} {a : Addr} {s : Sl} (hs : g[i]? = some s) (hsc : s.cell = some d) (ha : σ[i]? = some (some (V.ref a))) (fl : d.flat = true)
    (S' : Sta K F' g' σ' H') (P : Stp F H (g.set i (.ro d)) σ F' H' g' σ') {d' : D} (hr : g'[i]? = some (.ro d')) :
    Sta K F' (g'.set i s) σ' H' ∧ Stp F H g σ F' H' (g'.set i s) σ' ∧ H' a = H a ∧ ∀ x, Own (g'.set i s) σ' H' x → Own g' σ' H' x ∨ Own g σ H x := by
  have hc : (g[i]?).bind Sl.cell = some d := by rw [hs]; exact hsc
  obtain ⟨a', e1, c, n⟩ := S.cell hc
  rw [ha] at e1; cases e1
  have fa := flat_lst c fun c' fs' z => by rw [z] at fl; cases fl
  have sro : ∀ d, s ≠ Sl.ro d := fun d z => by rw [z] at hsc; cases hsc
  obtain ⟨h1, h2⟩ := P.kro i d' hr
  rw [ha] at h2
  obtain ⟨u, hu⟩ := c.at
  have no : ¬ Own (g.set i (.ro d)) σ H a := fun o => (own_lend S hc ha o).2 (.inl rfl)
  obtain ⟨k1, k2⟩ := P.fr' hu (c.dt (.inl rfl) hu).1 (c.nt (.inl rfl) hu) (n a (.inl rfl)) no
  have same : H' a = H a := by rw [k1, hu]
  have c' : Cell K F' H' a d := c.same P.fg fun x o f q => by
    cases fa x f
    rw [hu] at q; cases q; exact k1
  have ft : ∀ x, Foot H' a x → x = a := flat_lst c' fun c' fs' z => by rw [z] at fl; cases fl
  have no' : ¬ Own g' σ' H' a := fun o => by
    rcases P.own a o with o | o
    · exact no o
    · rw [hu] at o; cases o
  have li : i < g'.length := by
    obtain ⟨h, _⟩ := List.getElem?_eq_some_iff.mp hr; exact h
  have ow : ∀ x, Own (g'.set i s) σ' H' x → Own g' σ' H' x ∨ x = a := fun x ⟨j, e, b, cc, q, f⟩ => by
    rcases gset_bind cc with ⟨z1, z2⟩ | ⟨z1, z2⟩
    · subst z1; rw [h2] at q; cases q; exact .inr (ft x f)
    · exact .inl ⟨j, e, b, z2, q, f⟩
  refine ⟨⟨S'.sub, by simpa using S'.len, fun j t e => ?_, fun j l d1 d2 b1 b2 x jl c1 c2 e1 e2 f1 f2 => ?_, fun j d1 b e1 e2 => ?_, S'.tb⟩, ⟨P.fg, P.st, fun x o z1 nb z2 z3 => P.fr x o z1 nb z2 fun o' => z3 (own_lend S hc ha o').1, fun x o => ?_, fun j d1 e => ?_, fun j d1 e => ?_, P.ki⟩, same, fun x o => (ow x o).imp id fun e => by rw [e]; exact ⟨i, d, a, hc, ha, .inl rfl⟩⟩
  · rcases set_get e with ⟨z1, z2⟩ | ⟨z1, z2⟩
    · subst z1; subst z2
      have : ∃ a, σ'[j]? = some (some (V.ref a)) ∧ Cell K F' H' a d ∧ ∀ x, Foot H' a x → F' x = none := ⟨a, h2, c', fun x f => by rw [ft x f]; exact k2⟩
      cases t with
      | ow e => cases hsc; exact this
      | mb e => cases hsc; exact this
      | _ => cases hsc
    · exact S'.slot j t z2
  · rcases gset_bind c1 with ⟨z1, z2⟩ | ⟨z1, z2⟩
    · rcases gset_bind c2 with ⟨z3, z4⟩ | ⟨z3, z4⟩
      · exact jl (z1.trans z3.symm)
      · subst z1; rw [h2] at e1; cases e1
        exact no' ⟨l, d2, b2, z4, e2, by rw [ft x f1] at f2; exact f2⟩
    · rcases gset_bind c2 with ⟨z3, z4⟩ | ⟨z3, z4⟩
      · subst z3; rw [h2] at e2; cases e2
        exact no' ⟨j, d1, b1, z2, e1, by rw [ft x f2] at f1; exact f1⟩
      · exact S'.inj j l d1 d2 b1 b2 x jl z2 z4 e1 e2 f1 f2
  · rcases set_get e1 with ⟨z1, z2⟩ | ⟨z1, z2⟩
    · exact absurd z2.symm (sro d1)
    · by_cases ba : b = a
      · subst ba
        obtain ⟨k3, k4⟩ := P.kro j d1 z2
        rcases set_get k3 with ⟨w1, _⟩ | ⟨w1, w2⟩
        · exact absurd w1 z1
        · rw [e2] at k4
          rcases S.ro j d1 b w2 k4.symm with r | r
          · exact .inl (r.mono P.fg)
          · exact absurd ⟨i, d, b, hc, ha, .inl rfl⟩ r
      · refine (S'.ro j d1 b z2 e2).imp id fun r o => ?_
        rcases ow b o with o | o
        · exact r o
        · exact ba o
  · rcases ow x o with o | o
    · rcases P.own x o with o | o
      · exact .inl (own_lend S hc ha o).1
      · exact .inr o
    · rw [o]; exact .inl ⟨i, d, a, hc, ha, .inl rfl⟩
  · rcases set_get e with ⟨z1, z2⟩ | ⟨z1, z2⟩
    · exact absurd z2.symm (sro d1)
    · obtain ⟨k3, k4⟩ := P.kro j d1 z2
      rcases set_get k3 with ⟨w1, _⟩ | ⟨_, w2⟩
      · exact absurd w1 z1
      · exact ⟨w2, k4⟩
  · rcases set_get e with ⟨z1, z2⟩ | ⟨z1, z2⟩
    · subst z1; subst z2; exact ⟨⟨d1, hs⟩, by rw [h2, ha]⟩
    · obtain ⟨⟨e', k3⟩, k4⟩ := P.kmb j d1 z2
      rcases set_get k3 with ⟨w1, _⟩ | ⟨_, w2⟩
      · exact absurd w1 z1
      · exact ⟨⟨e', w2⟩, k4⟩
end
end Cq

set_option Elab.async false
set_option linter.all false
set_option maxRecDepth 100000
namespace Cq
open PySem PySem.Spec PyProof.Rows L2
structure Items (K : Frag) (F : Hp) (L : Hp → Prop) (J : It) (ds : List D) : Prop where
  go : ∀ i H, Sub F H → L H → i < ds.length → J.go i H
  stop : ∀ i H, Sub F H → L H → ds.length ≤ i → J.stop i H
  yld : ∀ i H x H' F1 d, Sub F F1 → Sub F1 H → L H → J.yld i H x H' → ds[i]? = some d → ∃ F2, Al F1 H F2 H' ∧ Rep K F2 x d
def relI (K : Frag) (l : Option Nat) : Rl (List D) It := fun σ H0 F' H' g' ds J => ∃ L : Hp → Prop, Items K F' L J ds ∧ L H' ∧ (∀ F2 H2 σ2 g2, Stp F' H' (lendOut l g') σ F2 H2 g2 σ2 → L H2) ∧ ∀ i d, l = some i → (g'[i]?).bind Sl.cell = some d → d.flat = true
def SI (X : Cx) (W : WX) (l : Option Nat) (tg iter : Expr) (m : M (List D)) : Prop := PI X tg iter (tG X.K W (relI X.K l) m)
def forL (T : Tgt) (body : M Fl) : List D → M Fl
  | [] => M.ret .nx
  | d :: ds => fun g => match T d g with
    | none => none
    | some g1 => match body g1 with
      | some (.ok .nx g2) => forL T body ds g2
      | some (.ok .ct g2) => forL T body ds g2
      | some (.ok .bk g2) => some (.ok .nx g2)
      | o => o
def mBack {α : Type} (l : Option Nat) (g : Gm) (o : Option (Res α)) : Option (Res α) := match o with
  | none => none
  | some (.ok f g') => (match lendIn l g g' with
    | some g'' => some (.ok f g'')
    | none => none)
  | some (.ex c g') => (match lendIn l g g' with
    | some g'' => some (.ex c g'')
    | none => none)
def mFor (l : Option Nat) (it : M (List D)) (T : Tgt) (body : M Fl) : M Fl := it.bind fun ds => fun g => mBack l g (forL T body ds (lendOut l g))
section
variable {X : Cx} {W : WX} {pos : Pos} {σ : L2.St} {F H F0 H0 : Hp} {g g0 : Gm} {e : Expr}
/-- the three ways of a lending -/
theorem lend_cases {K : Frag} {l : Option Nat} (S : Sta K F g σ H) (fl : ∀ i d, l = some i → (g[i]?).bind Sl.cell = some d → d.flat = true) :
    (lendOut l g = g ∧ ∀ g', lendIn l g g' = some g') ∨ ∃ i s d a, l = some i ∧ g[i]? = some s ∧ s.cell = some d ∧ σ[i]? = some (some (V.ref a)) ∧ d.flat = true ∧ lendOut l g = g.set i (.ro d) ∧ ∀ g', (∀ g'', lendIn l g g' = some g'' → (∃ d', g'[i]? = some (.ro d')) ∧ g'' = g'.set i s) := by
  cases l with
  | none => exact .inl ⟨rfl, fun _ => rfl⟩
  | some i =>
    cases e : g[i]? with
    | none => exact .inl ⟨by simp [lendOut, e], fun _ => by simp [lendIn, e]⟩
    | some s =>
      have hc : ∀ d, s.cell = some d → (g[i]?).bind Sl.cell = some d := fun d h => by rw [e]; exact h
      have tail : ∀ d, s.cell = some d → (∀ g', ∀ g'', lendIn (some i) g g' = some g'' → (∃ d', g'[i]? = some (.ro d')) ∧ g'' = g'.set i s) → lendOut (some i) g = g.set i (.ro d) → ∃ i' s' d a, some i = some i' ∧ g[i']? = some s' ∧ s'.cell = some d ∧ σ[i']? = some (some (V.ref a)) ∧ d.flat = true ∧ lendOut (some i) g = g.set i' (.ro d) ∧ ∀ g', (∀ g'', lendIn (some i) g g' = some g'' → (∃ d', g'[i']? = some (.ro d')) ∧ g'' = g'.set i' s') := fun d h1 h2 h3 => by
        obtain ⟨a, ha, _⟩ := S.cell (hc d h1)
        exact ⟨i, s, d, a, rfl, e, h1, ha, fl i d rfl (hc d h1), h3, h2⟩
      cases s with
      | un => exact .inl ⟨by simp [lendOut, e], fun _ => by simp [lendIn, e]⟩
      | im d => exact .inl ⟨by simp [lendOut, e], fun _ => by simp [lendIn, e]⟩
      | ro d => exact .inl ⟨by simp [lendOut, e], fun _ => by simp [lendIn, e]⟩
      | ow d =>
        refine .inr (tail d rfl (fun g' g'' h => by
          simp only [lendIn, e] at h
          cases q : g'[i]? with
          | none => simp only [q] at h; cases h
          | some t => cases t with
            | ro d' => simp only [q] at h; exact ⟨⟨d', rfl⟩, (Option.some.inj h).symm⟩
            | _ => simp only [q] at h; cases h) (by simp [lendOut, e]))
      | mb d =>
        refine .inr (tail d rfl (fun g' g'' h => by
          simp only [lendIn, e] at h
          cases q : g'[i]? with
          | none => simp only [q] at h; cases h
          | some t => cases t with
            | ro d' => simp only [q] at h; exact ⟨⟨d', rfl⟩, (Option.some.inj h).symm⟩
            | _ => simp only [q] at h; cases h) (by simp [lendOut, e]))
theorem lend_sta {K : Frag} {l : Option Nat} (S : Sta K F g σ H) (fl : ∀ i d, l = some i → (g[i]?).bind Sl.cell = some d → d.flat = true) : Sta K F (lendOut l g) σ H := by
  rcases lend_cases S fl with ⟨h, _⟩ | ⟨i, s, d, a, _, h1, h2, h3, h4, h5, _⟩
  · rw [h]; exact S
  · rw [h5]; exact S.lend (by rw [h1]; exact h2) h3 h4
theorem lend_back {K : Frag} {l : Option Nat} {F' H' : Hp} {g' g'' : Gm} {σ' : L2.St} (S : Sta K F g σ H) (fl : ∀ i d, l = some i → (g[i]?).bind Sl.cell = some d → d.flat = true)
    (S' : Sta K F' g' σ' H') (P : Stp F H (lendOut l g) σ F' H' g' σ') (h : lendIn l g g' = some g'') : Sta K F' g'' σ' H' ∧ Stp F H g σ F' H' g'' σ' ∧ ∀ x, Own g'' σ' H' x → Own g' σ' H' x ∨ Own g σ H x := by
  rcases lend_cases S fl with ⟨h1, h2⟩ | ⟨i, s, d, a, _, h1, h2, h3, h4, h5, h6⟩
  · rw [h2] at h; cases h; rw [h1] at P; exact ⟨S', P, fun x o => .inl o⟩
  · rw [h5] at P
    obtain ⟨⟨d', e1⟩, e2⟩ := h6 g' g'' h
    subst e2
    obtain ⟨z1, z2, _, z4⟩ := S.back h1 h2 h3 h4 S' P e1
    exact ⟨z1, z2, z4⟩
theorem back_ok {K : Frag} {l : Option Nat} {E : Ends} {o : Option (Res Fl)} (S : Sta K F g σ H) (fl : ∀ i d, l = some i → (g[i]?).bind Sl.cell = some d → d.flat = true) (q : PstS K W F H g σ E (mBack l g o)) : PstS K W F H (lendOut l g) σ E o := by
  cases o with
  | none => exact q
  | some r => cases r with
    | ex c g' =>
      simp only [mBack] at q
      cases h : lendIn l g g' with
      | none => rw [h] at q; exact q.elim
      | some g'' =>
        rw [h] at q
        exact fun F' σ' H' S' P' => let ⟨z1, z2, _⟩ := lend_back S fl S' P' h; q F' σ' H' z1 z2
    | ok f g' =>
      simp only [mBack] at q
      cases h : lendIn l g g' with
      | none => rw [h] at q; exact q.elim
      | some g'' =>
        rw [h] at q
        cases f with
        | nx => exact fun F' σ' H' S' P' => let ⟨z1, z2, _⟩ := lend_back S fl S' P' h; q F' σ' H' z1 z2
        | bk => exact fun F' σ' H' S' P' => let ⟨z1, z2, _⟩ := lend_back S fl S' P' h; q F' σ' H' z1 z2
        | ct => exact fun F' σ' H' S' P' => let ⟨z1, z2, _⟩ := lend_back S fl S' P' h; q F' σ' H' z1 z2
        | rt d => exact fun v F' σ' H' S' P' r => let ⟨z1, z2, _⟩ := lend_back S fl S' P' h; q v F' σ' H' z1 z2 r
        | rn d =>
          intro v F' σ' H' S' P' ⟨b, ev, c, k⟩
          obtain ⟨z1, z2, _⟩ := lend_back S fl S' P' h
          refine q v F' σ' H' z1 z2 ⟨b, ev, c, fun x fx => ?_⟩
          obtain ⟨k1, k2, k3⟩ := k x fx
          rcases lend_cases S fl with ⟨h1, h2⟩ | ⟨i, s, d0, a, _, h1, h2, h3, h4, h5, h6⟩
          · rw [h2] at h; cases h
            rw [h1] at k2
            exact ⟨k1, k2, k3⟩
          · obtain ⟨⟨d', e1⟩, e2⟩ := h6 g' g'' h
            subst e2
            rw [h5] at k2 P'
            have hc : (g[i]?).bind Sl.cell = some d0 := by rw [h1]; exact h2
            obtain ⟨a', w1, w2, w3⟩ := S.cell hc
            rw [h3] at w1; cases w1
            obtain ⟨u, hu⟩ := w2.at
            have na : x ≠ a := fun z => by
              rw [z] at k2
              rcases k2 with o | o
              · exact (own_lend S hc h3 o).2 (.inl rfl)
              · rw [hu] at o; cases o
            refine ⟨k1, k2.imp (fun o => (own_lend S hc h3 o).1) id, fun j dj hj bj hb fb => ?_⟩
            rcases set_get hj with ⟨y1, y2⟩ | ⟨y1, y2⟩
            · subst y1
              obtain ⟨t1, t2⟩ := P'.kro _ _ e1
              rw [t2, h3] at hb; cases hb
              obtain ⟨_, _, same, _⟩ := S.back h1 h2 h3 h4 S' P' e1
              exact na (flat_lst w2 (fun c' fs' z => by rw [z] at h4; cases h4) x (fb.same hu same))
            · exact k3 j dj y2 bj hb fb
theorem forL_ok {T : Tgt} {body : M Fl} {E : Ends} {d : D} {ds : List D} {g1 : Gm} (q : PstS X.K W F0 H0 g0 σ E (forL T body (d :: ds) g)) : ∃ g1, T d g = some g1 ∧ ∀ N : L2.St → Hp → Prop, (∀ F' g' σ' H', Sta X.K F' g' σ' H' → Stp F0 H0 g0 σ F' H' g' σ' → PstS X.K W F0 H0 g0 σ E (forL T body ds g') → N σ' H') →
    PstS X.K W F0 H0 g0 σ { E with nx := N, ct := N, bk := E.nx } (body g1) := by
  simp only [forL] at q
  cases o : T d g with
  | none => simp only [o] at q; exact q.elim
  | some g1 =>
    simp only [o] at q
    refine ⟨g1, rfl, fun N hN => ?_⟩
    cases b : body g1 with
    | none => simp only [b] at q; exact q
    | some r => cases r with
      | ex c g2 => simp only [b] at q; exact q
      | ok f g2 => cases f with
        | nx => simp only [b] at q; exact fun F' σ' H' S' P' => hN F' g2 σ' H' S' P' q
        | ct => simp only [b] at q; exact fun F' σ' H' S' P' => hN F' g2 σ' H' S' P' q
        | bk => simp only [b] at q; exact q
        | rt d => simp only [b] at q; exact q
        | rn d => simp only [b] at q; exact q
theorem ss_for {l : Option Nat} {tg iter : Expr} {body : List Stmt} {m : M (List D)} {T : Tgt} {ns : List Nat} {mb : M Fl} (hp : PassesOwn (model X.prog X.w) X.A X.env X.xe) (hc : X.calm = true) (hi : SI X W l tg iter m) (hg : SG X tg ns T) (hb : SSs X W body mb)
    (hs : ∀ x, foldedSetIterable iter X.env x = pure x := by intro _; rfl) : SS X W (.For tg iter body [] pos) (mFor l m T mb) := PS_imp (ps_for hp hc hi hg hb hs) fun E σ H q => by
  obtain ⟨F, g, S, q⟩ := q
  refine ⟨F, g, S, Pst_stm Stp.refl q fun ds J F1 H1 g1 S1 P1 P01 r1 q1 => ?_⟩
  obtain ⟨L, it, l0, lk, fl⟩ := r1
  have q2 := back_ok S1 fl (PstS_from P1 q1)
  have S2 := lend_sta S1 fl
  refine ⟨fun i m σ' H' => ∃ F' g', Sta X.K F' g' σ' H' ∧ Stp F1 H1 (lendOut l g1) σ F' H' g' σ' ∧ m = ds.length - i ∧ i ≤ ds.length ∧ PstS X.K W F1 H1 (lendOut l g1) σ E (forL T mb (ds.drop i) g'), ⟨ds.length, F1, _, S2, Stp.refl, rfl, Nat.zero_le _, q2⟩, ?_⟩
  rintro i m σ3 H3 ⟨F3, g3, S3, P3, rfl, hi, q3⟩
  have L3 := lk _ _ _ _ P3
  have sub := P3.fg.trans S3.sub
  by_cases lt : i < ds.length
  · refine .inr ⟨it.go i H3 sub L3 lt, fun σ' H' => ∃ F' g', Sta X.K F' g' σ' H' ∧ Stp F1 H1 (lendOut l g1) σ F' H' g' σ' ∧ PstS X.K W F1 H1 (lendOut l g1) σ E (forL T mb (ds.drop (i + 1)) g'), fun σ' H' ⟨F', g', S', P', q'⟩ => ⟨ds.length - (i + 1), by omega, F', g', S', P', rfl, lt, q'⟩, fun x H' y => ?_⟩
    obtain ⟨F4, A, r4⟩ := it.yld i H3 x H' F3 ds[i] P3.fg S3.sub L3 y (List.getElem?_eq_getElem lt)
    obtain ⟨S4, P4⟩ := S3.al A
    rw [List.drop_eq_getElem_cons lt] at q3
    obtain ⟨g5, hT, k⟩ := forL_ok (X := X) (g1 := g3) q3
    refine ⟨F4, g3, ds[i], g5, S4, r4, hT, fun σ5 S5 P5 _ => ⟨F4, g5, S5, ?_⟩⟩
    exact PstS_from (P3.trans (P4.trans P5)) (k _ fun F' g' σ' H' S' P' q' => ⟨F', g', S', P', q'⟩)
  · have e : i = ds.length := by omega
    subst e
    rw [List.drop_length] at q3
    exact .inl ⟨it.stop _ H3 sub L3 (Nat.le_refl _), q3 F3 σ3 H3 S3 P3⟩
end
end Cq

set_option Elab.async false
set_option linter.all false
set_option maxRecDepth 100000
namespace Cq
open PySem PySem.Spec PyProof.Rows L2
inductive Md where
  | im | ro | mu
  deriving DecidableEq
inductive FR where
  | ret (d : D) (es : List D) | new (d : D) (es : List D) | exc (c : Nat) (es : List D)
abbrev Fn := List D → Option FR
def slotOf : Md → D → Sl
  | .im, d => .im d
  | .ro, d => .ro d
  | .mu, d => .mb d
def gOf : List Md → List D → Gm
  | m :: ms, d :: ds => slotOf m d :: gOf ms ds
  | _, _ => []
def gAft : List Md → List D → List D → Gm
  | .mu :: ms, _ :: ds, e :: es => .mb e :: gAft ms ds es
  | .mu :: _, _ :: _, [] => []
  | m :: ms, d :: ds, es => slotOf m d :: gAft ms ds es
  | _, _, _ => []
def spF (K : Frag) (ms : List Md) (f : Fn) : Sp := fun vs H Q E => ∃ F ds, ds.length = ms.length ∧ vs.length = ms.length ∧ Sta K F (gOf ms ds) (vs.map some) H ∧ match f ds with
  | none => False
  | some (.ret d es) => ∀ v F' H', Sta K F' (gAft ms ds es) (vs.map some) H' → Stp F H (gOf ms ds) (vs.map some) F' H' (gAft ms ds es) (vs.map some) → Rep K F' v d → Q v H'
  | some (.new d es) => ∀ a F' H', Sta K F' (gAft ms ds es) (vs.map some) H' → Stp F H (gOf ms ds) (vs.map some) F' H' (gAft ms ds es) (vs.map some) → Cell K F' H' a d → (∀ x, Foot H' a x → F' x = none ∧ ¬ Own (gAft ms ds es) (vs.map some) H' x ∧ H x = none) → Q (.ref a) H'
  | some (.exc c es) => ∀ F' H', Sta K F' (gAft ms ds es) (vs.map some) H' → Stp F H (gOf ms ds) (vs.map some) F' H' (gAft ms ds es) (vs.map some) → E (exv K c) none H'
def Sl.put : Sl → D → Sl
  | .ow _, e => .ow e
  | .mb _, e => .mb e
  | s, _ => s
section
variable {K : Frag} {σ σp : L2.St} {F H F' H' : Hp} {g g' gp gp' : Gm}
/-- behind a call: the callee's cells are the caller's -/
theorem Sta.called (S : Sta K F g σ H) (P : Stp F H gp σp F' H' gp' σp) (S' : Sta K F' gp' σp H') (R : Nat → Nat → Prop)
    (h1 : ∀ p i, R p i → σp[p]? = σ[i]? ∧ ∃ d, (g[i]?).bind Sl.cell = some d) (h2 : ∀ p d, (gp[p]?).bind Sl.cell = some d → ∃ i, R p i)
    (h3 : ∀ p i j, R p i → R p j → i = j) (len : g'.length = g.length)
    (hg : ∀ i, (∃ p s e, R p i ∧ g[i]? = some s ∧ gp'[p]? = some (.mb e) ∧ g'[i]? = some (s.put e)) ∨ ((∀ p, ¬ R p i) ∧ g'[i]? = g[i]?)) : Sta K F' g' σ H' ∧ Stp F H g σ F' H' g' σ ∧ ∀ x, Own g' σ H' x → Own gp' σp H' x ∨ Own g σ H x := by
  -- the callee's own is the caller's, at the passed slots
  have ownp : ∀ x, Own gp σp H x → ∃ p i d a, R p i ∧ (g[i]?).bind Sl.cell = some d ∧ σ[i]? = some (some (V.ref a)) ∧ Foot H a x := fun x ⟨p, d, a, c, e, f⟩ => by
    obtain ⟨i, r⟩ := h2 p d c
    obtain ⟨z1, d', z2⟩ := h1 p i r
    exact ⟨p, i, d', a, r, z2, by rw [← z1]; exact e, f⟩
  have ownp' : ∀ x, Own gp σp H x → Own g σ H x := fun x o => let ⟨p, i, d, a, r, c, e, f⟩ := ownp x o; ⟨i, d, a, c, e, f⟩
  -- a slot that was not passed
  have stay : ∀ i d a, (∀ p, ¬ R p i) → (g[i]?).bind Sl.cell = some d → σ[i]? = some (some (V.ref a)) → Cell K F' H' a d ∧ H' a = H a ∧ ∀ x, Foot H' a x → F' x = none ∧ ∃ o, H x = some o := fun i d a nr c e => by
    obtain ⟨a', e', k, n⟩ := S.cell c
    rw [e] at e'; cases e'
    have pr : ∀ x o, Foot H a x → H x = some o → H' x = some o ∧ F' x = none := fun x o f hx => P.fr' hx (k.dt f hx).1 (k.nt f hx) (n x f) fun ow => by
      obtain ⟨p, j, d', b, r, c', e2, f2⟩ := ownp x ow
      refine S.inj i j d d' a b x (fun z => ?_) c c' e e2 f f2
      subst z; exact nr p r
    obtain ⟨u, hu⟩ := k.at
    have same : H' a = H a := by rw [(pr a u (.inl rfl) hu).1, hu]
    refine ⟨k.same P.fg fun x o f hx => (pr x o f hx).1, same, fun x f => ?_⟩
    have f0 := f.same hu same
    obtain ⟨o, ho⟩ := k.foot f0
    exact ⟨(pr x o f0 ho).2, o, ho⟩
  -- the cells behind
  have cells : ∀ i d', (g'[i]?).bind Sl.cell = some d' → (∃ p e, R p i ∧ gp'[p]? = some (.mb e) ∧ d' = e ∧ σp[p]? = σ[i]?) ∨ ((∀ p, ¬ R p i) ∧ (g[i]?).bind Sl.cell = some d') := fun i d' c => by
    rcases hg i with ⟨p, s, e, r, z1, z2, z3⟩ | ⟨z1, z2⟩
    · rw [z3] at c
      cases s with
      | ow _ => cases c; exact .inl ⟨p, _, r, z2, rfl, (h1 p i r).1⟩
      | mb _ => cases c; exact .inl ⟨p, _, r, z2, rfl, (h1 p i r).1⟩
      | _ => cases c
    · rw [z2] at c; exact .inr ⟨z1, c⟩
  have own' : ∀ x, Own g' σ H' x → Own g σ H x ∨ H x = none := fun x ⟨i, d', a, c, e, f⟩ => by
    rcases cells i d' c with ⟨p, e', r, z1, z2, z3⟩ | ⟨z1, z2⟩
    · rcases P.own x ⟨p, e', a, by rw [z1]; rfl, by rw [z3]; exact e, f⟩ with o | o
      · exact .inl (ownp' x o)
      · exact .inr o
    · obtain ⟨k, same, n⟩ := stay i d' a z1 z2 e
      obtain ⟨a', e', k0, _⟩ := S.cell z2
      rw [e] at e'; cases e'
      obtain ⟨u, hu⟩ := k0.at
      exact .inl ⟨i, d', a, z2, e, f.same hu same⟩
  have own2 : ∀ x, Own g' σ H' x → Own gp' σp H' x ∨ Own g σ H x := fun x ⟨i, d', a, c, e, f⟩ => by
    rcases cells i d' c with ⟨p, e', r, z1, z2, z3⟩ | ⟨z1, z2⟩
    · exact .inl ⟨p, e', a, by rw [z1]; rfl, by rw [z3]; exact e, f⟩
    · obtain ⟨k, same, n⟩ := stay i d' a z1 z2 e
      obtain ⟨a', e', k0, _⟩ := S.cell z2
      rw [e] at e'; cases e'
      obtain ⟨u, hu⟩ := k0.at
      exact .inr ⟨i, d', a, z2, e, f.same hu same⟩
  refine ⟨⟨S'.sub, len.trans S.len, fun i t e => ?_, fun i j d e a b x ij c1 c2 e1 e2 f1 f2 => ?_, fun i d a e1 e2 => ?_, S'.tb⟩, ⟨P.fg, P.st, fun x o z1 nb z2 z3 => P.fr x o z1 nb z2 fun ow => z3 (ownp' x ow), own', fun i d e => ⟨?_, rfl⟩, fun i d e => ⟨?_, rfl⟩, P.ki⟩, own2⟩
  · rcases hg i with ⟨p, s, e', r, z1, z2, z3⟩ | ⟨z1, z2⟩
    · have k := S'.slot p _ z2
      obtain ⟨w, _⟩ := h1 p i r
      rw [w] at k
      obtain ⟨_, d0, hd⟩ := h1 p i r
      rw [z1] at hd
      rw [z3] at e
      cases s with
      | ow _ => cases e; exact k
      | mb _ => cases e; exact k
      | _ => cases hd
    · rw [z2] at e
      have k := S.slot i t e
      have cell : ∀ d, t.cell = some d → (∃ a, σ[i]? = some (some (V.ref a)) ∧ Cell K F H a d ∧ ∀ x, Foot H a x → F x = none) → ∃ a, σ[i]? = some (some (V.ref a)) ∧ Cell K F' H' a d ∧ ∀ x, Foot H' a x → F' x = none := fun d hd ⟨a, w1, _, _⟩ => by
        obtain ⟨k1, _, k3⟩ := stay i d a z1 (by rw [e]; exact hd) w1
        exact ⟨a, w1, k1, fun x f => (k3 x f).1⟩
      cases t with
      | un => trivial
      | im d => obtain ⟨v, w, r⟩ := k; exact ⟨v, w, r.mono P.fg⟩
      | ow d => exact cell d rfl k
      | mb d => exact cell d rfl k
      | ro d =>
        obtain ⟨v, w, r⟩ := k
        refine ⟨v, w, ?_⟩
        rcases r with r | ⟨a, rfl, c, n⟩
        · exact .inl (r.mono P.fg)
        · rcases S.ro i d a e w with r | r
          · exact .inl (r.mono P.fg)
          · obtain ⟨u, hu⟩ := c.at
            have same : H' a = some u := by
              cases hf : F a with
              | none => exact (P.fr a u hu (c.dt (.inl rfl) hu).1 (fun _ => hf) fun ow => r (ownp' a ow)).1
              | some o =>
                have := S.sub _ _ hf
                rw [hu] at this; cases this
                exact S'.sub _ _ (P.fg _ _ hf)
            exact .inr ⟨a, rfl, c.same P.fg fun x o f hx => by
              cases n x f
              rw [hu] at hx; cases hx; exact same, fun x f => n x (f.same hu (by rw [same, hu]))⟩
  · rcases cells i d c1 with ⟨p, e', r, z1, z2, z3⟩ | ⟨z1, z2⟩
    · rcases cells j e c2 with ⟨q, e'', r', w1, w2, w3⟩ | ⟨w1, w2⟩
      · refine S'.inj p q e' e'' a b x (fun z => ?_) (by rw [z1]; rfl) (by rw [w1]; rfl) (by rw [z3]; exact e1) (by rw [w3]; exact e2) f1 f2
        subst z; exact ij (h3 p i j r r')
      · obtain ⟨k, same, n⟩ := stay j e b w1 w2 e2
        obtain ⟨o, ho⟩ := (n x f2).2
        rcases P.own x ⟨p, e', a, by rw [z1]; rfl, by rw [z3]; exact e1, f1⟩ with ow | ow
        · obtain ⟨p', i', d', a', r', c', e', f'⟩ := ownp x ow
          obtain ⟨_, q1, k0, _⟩ := S.cell w2
          rw [e2] at q1; cases q1
          obtain ⟨u, hu⟩ := k0.at
          refine S.inj i' j d' e a' b x (fun z => ?_) c' w2 e' e2 f' (f2.same hu same)
          subst z; exact w1 p' r'
        · rw [ho] at ow; cases ow
    · rcases cells j e c2 with ⟨q, e'', r', w1, w2, w3⟩ | ⟨w1, w2⟩
      · obtain ⟨k, same, n⟩ := stay i d a z1 z2 e1
        obtain ⟨o, ho⟩ := (n x f1).2
        rcases P.own x ⟨q, e'', b, by rw [w1]; rfl, by rw [w3]; exact e2, f2⟩ with ow | ow
        · obtain ⟨p', i', d', a', r', c', e', f'⟩ := ownp x ow
          obtain ⟨_, q1, k0, _⟩ := S.cell z2
          rw [e1] at q1; cases q1
          obtain ⟨u, hu⟩ := k0.at
          refine S.inj i' i d' d a' a x (fun z => ?_) c' z2 e' e1 f' (f1.same hu same)
          subst z; exact z1 p' r'
        · rw [ho] at ow; cases ow
      · obtain ⟨_, same, _⟩ := stay i d a z1 z2 e1
        obtain ⟨_, same', _⟩ := stay j e b w1 w2 e2
        obtain ⟨_, q1, k0, _⟩ := S.cell z2
        rw [e1] at q1; cases q1
        obtain ⟨u, hu⟩ := k0.at
        obtain ⟨_, q2, k1, _⟩ := S.cell w2
        rw [e2] at q2; cases q2
        obtain ⟨u', hu'⟩ := k1.at
        exact S.inj i j d e a b x ij z2 w2 e1 e2 (f1.same hu same) (f2.same hu' same')
  · have e0 : g[i]? = some (.ro d) := by
      rcases hg i with ⟨p, s, e', r, z1, z2, z3⟩ | ⟨z1, z2⟩
      · rw [z3] at e1
        obtain ⟨_, d0, hd⟩ := h1 p i r
        rw [z1] at hd
        cases s with
        | ow _ => cases e1
        | mb _ => cases e1
        | _ => cases hd
      · rw [← z2]; exact e1
    refine (Classical.em (Rep K F' (.ref a) d)).imp id fun nr ow => ?_
    rcases S.ro i d a e0 e2 with r | r
    · exact nr (r.mono P.fg)
    · rcases own' a ow with o | o
      · exact r o
      · obtain ⟨v, w, rv⟩ := S.slot i _ e0
        rw [e2] at w; cases w
        rcases rv with rv | ⟨_, z, c, _⟩
        · exact nr (rv.mono P.fg)
        · cases z
          obtain ⟨u, hu⟩ := c.at
          rw [o] at hu; cases hu
  · rcases hg i with ⟨p, s, e', r, z1, z2, z3⟩ | ⟨z1, z2⟩
    · rw [z3] at e
      obtain ⟨_, d0, hd⟩ := h1 p i r
      rw [z1] at hd
      cases s with
      | ow _ => cases e
      | mb _ => cases e
      | _ => cases hd
    · rw [← z2]; exact e
  · rcases hg i with ⟨p, s, e', r, z1, z2, z3⟩ | ⟨z1, z2⟩
    · rw [z3] at e
      cases s with
      | mb d0 => exact ⟨d0, z1⟩
      | ow _ => cases e
      | un => cases e
      | im _ => cases e
      | ro _ => cases e
    · exact ⟨d, by rw [← z2]; exact e⟩
end
end Cq

set_option Elab.async false
set_option linter.all false
set_option maxRecDepth 100000
namespace Cq
open PySem PySem.Spec PyProof.Rows L2
def mFrzM : List Md → List Hd → M (List Hd)
  | .im :: ms, h :: hs => (mFrz h).bind fun d => (mFrzM ms hs).bind fun hs' => M.ret (.va d :: hs')
  | .ro :: ms, h :: hs => (mFrzM ms hs).bind fun hs' => M.ret (h :: hs')
  | .mu :: ms, h :: hs => (mFrzM ms hs).bind fun hs' => M.ret (h :: hs')
  | _, [] => M.ret []
  | [], _ => M.fail
def argD (g : Gm) : Md → Hd → Option D
  | .im, .va d => some d
  | .ro, h => h.rd g
  | .mu, .nm i => (g[i]?).bind Sl.cell
  | _, _ => none
def argDs (g : Gm) : List Md → List Hd → Option (List D)
  | [], [] => some []
  | m :: ms, h :: hs => match argD g m h, argDs g ms hs with
    | some d, some ds => some (d :: ds)
    | _, _ => none
  | _, _ => none
def Hd.isNm (i : Nat) : Hd → Bool
  | .nm j => j == i
  | _ => false
def nmu : List Md → List Hd → List Nat
  | .mu :: ms, .nm i :: hs => i :: nmu ms hs
  | _ :: ms, _ :: hs => nmu ms hs
  | _, _ => []
def apartB : List Md → List Hd → Bool
  | .mu :: ms, .nm i :: hs => !(hs.any (Hd.isNm i)) && apartB ms hs
  | _ :: ms, .nm i :: hs => !((nmu ms hs).contains i) && apartB ms hs
  | _ :: ms, _ :: hs => apartB ms hs
  | _, _ => true
def putMu : List Md → List Hd → List D → Gm → Option Gm
  | .mu :: ms, .nm i :: hs, e :: es, g => match g[i]? with
    | some s => putMu ms hs es (g.set i (s.put e))
    | none => none
  | .mu :: _, _, _, _ => none
  | _ :: ms, _ :: hs, es, g => putMu ms hs es g
  | [], [], _, g => some g
  | _, _, _, _ => none
section
variable {X : Cx} {W : WX} {pos : Pos} {σ : L2.St} {F H F0 H0 : Hp} {g g0 : Gm}
theorem argDs_get : ∀ {ms : List Md} {hs : List Hd} {ds : List D}, argDs g ms hs = some ds → ds.length = ms.length ∧ hs.length = ms.length ∧ ∀ (p : Nat) (m : Md), ms[p]? = some m → ∃ h d, hs[p]? = some h ∧ ds[p]? = some d ∧ argD g m h = some d
  | [], [], _, e => by cases e; exact ⟨rfl, rfl, fun p m h => by simp at h⟩
  | m :: ms, h :: hs, ds, e => by
    simp only [argDs] at e
    cases a : argD g m h with
    | none => simp only [a] at e; cases e
    | some d => cases b : argDs g ms hs with
      | none => simp only [a, b] at e; cases e
      | some ds' =>
        simp only [a, b] at e
        cases e
        obtain ⟨l1, l2, k⟩ := argDs_get b
        refine ⟨by simp [l1], by simp [l2], fun p m' hp => ?_⟩
        cases p with
        | zero => simp at hp; subst hp; exact ⟨h, d, rfl, rfl, a⟩
        | succ p => exact k p m' (by simpa using hp)
  | [], _ :: _, _, e => by simp [argDs] at e
  | _ :: _, [], _, e => by simp [argDs] at e
theorem gOf_get : ∀ {ms : List Md} {ds : List D}, ds.length = ms.length → ∀ (p : Nat), (gOf ms ds)[p]? = (ms[p]?).bind fun m => (ds[p]?).map (slotOf m)
  | [], [], _, p => by simp [gOf]
  | m :: ms, d :: ds, l, p => by
    have l' : ds.length = ms.length := by simpa using l
    cases p with
    | zero => simp [gOf]
    | succ p => simp only [gOf, List.getElem?_cons_succ]; exact gOf_get l' p
  | [], _ :: _, l, _ => by simp at l
  | _ :: _, [], l, _ => by simp at l
theorem gOf_len : ∀ {ms : List Md} {ds : List D}, ds.length = ms.length → (gOf ms ds).length = ms.length
  | [], [], _ => rfl
  | m :: ms, d :: ds, l => by simp only [gOf, List.length_cons]; rw [gOf_len (by simpa using l)]
  | [], _ :: _, l => by simp at l
  | _ :: _, [], l => by simp at l
theorem HdsR.get {K : Frag} : ∀ {hs : List Hd} {vs : List V}, HdsR K F σ hs vs → hs.length = vs.length ∧ ∀ (p : Nat) (h : Hd), hs[p]? = some h → ∃ v, vs[p]? = some v ∧ HdR K F σ h v
  | _, _, .nil => ⟨rfl, fun p h e => by simp at e⟩
  | _, _, .cons r t => by
    obtain ⟨l, k⟩ := t.get
    refine ⟨by simp [l], fun p h e => ?_⟩
    cases p with
    | zero => simp at e; subst e; exact ⟨_, rfl, r⟩
    | succ p => exact k p h (by simpa using e)
theorem nmu_mem : ∀ {ms : List Md} {hs : List Hd} {p i : Nat}, ms[p]? = some .mu → hs[p]? = some (.nm i) → i ∈ nmu ms hs
  | [], _, p, i, h, _ => by simp at h
  | _ :: _, [], p, i, _, h => by simp at h
  | m :: ms, h :: hs, 0, i, e1, e2 => by
    simp at e1 e2; subst e1; subst e2; exact List.mem_cons_self
  | m :: ms, h :: hs, p + 1, i, e1, e2 => by
    have q := nmu_mem (ms := ms) (hs := hs) (p := p) (i := i) (by simpa using e1) (by simpa using e2)
    cases m <;> cases h <;> first | exact List.mem_cons_of_mem _ q | exact q
theorem apart_ok : ∀ {ms : List Md} {hs : List Hd}, apartB ms hs = true → ∀ (p q i : Nat), p ≠ q → ms[p]? = some Md.mu → hs[p]? = some (Hd.nm i) → hs[q]? = some (Hd.nm i) → False
  | [], _, _, p, q, i, _, h, _, _ => by simp at h
  | _ :: _, [], _, p, q, i, _, _, h, _ => by simp at h
  | m :: ms, h :: hs, a, p, q, i, pq, e1, e2, e3 => by
    have tail : apartB ms hs = true := by
      cases m <;> cases h <;> simp only [apartB, Bool.and_eq_true] at a <;> first | exact a.2 | exact a
    cases p with
    | zero =>
      cases q with
      | zero => exact pq rfl
      | succ q =>
        simp at e1 e2; subst e1; subst e2
        simp only [apartB, Bool.and_eq_true, Bool.not_eq_true'] at a
        have e3 : hs[q]? = some (.nm i) := by simpa using e3
        have : hs.any (Hd.isNm i) = true := List.any_eq_true.mpr ⟨_, List.mem_of_getElem? e3, by simp [Hd.isNm]⟩
        rw [a.1] at this; cases this
    | succ p =>
      have e1 : ms[p]? = some .mu := by simpa using e1
      have e2 : hs[p]? = some (.nm i) := by simpa using e2
      cases q with
      | zero =>
        simp at e3; subst e3
        have m1 := nmu_mem e1 e2
        cases m with
        | mu =>
          simp only [apartB, Bool.and_eq_true, Bool.not_eq_true'] at a
          have : hs.any (Hd.isNm i) = true := List.any_eq_true.mpr ⟨_, List.mem_of_getElem? e2, by simp [Hd.isNm]⟩
          rw [a.1] at this; cases this
        | im =>
          simp only [apartB, Bool.and_eq_true, Bool.not_eq_true'] at a
          have : (nmu ms hs).contains i = true := by simpa using m1
          rw [a.1] at this; cases this
        | ro =>
          simp only [apartB, Bool.and_eq_true, Bool.not_eq_true'] at a
          have : (nmu ms hs).contains i = true := by simpa using m1
          rw [a.1] at this; cases this
      | succ q => exact apart_ok tail p q i (fun z => pq (by rw [z])) e1 e2 (by simpa using e3)
/-- the callee's parameters -/
theorem callee_sta {K : Frag} {ms : List Md} {hs : List Hd} {ds : List D} {vs : List V} (S : Sta K F g σ H) (r : HdsR K F σ hs vs) (e : argDs g ms hs = some ds) (ap : apartB ms hs = true) :
    ds.length = ms.length ∧ vs.length = ms.length ∧ Sta K F (gOf ms ds) (vs.map some) H := by
  obtain ⟨l1, l2, k⟩ := argDs_get e
  obtain ⟨l3, kr⟩ := r.get
  have gp : ∀ (p : Nat) (t : Sl), (gOf ms ds)[p]? = some t → ∃ m h d v, ms[p]? = some m ∧ hs[p]? = some h ∧ vs[p]? = some v ∧ t = slotOf m d ∧ argD g m h = some d ∧ HdR K F σ h v := fun p t q => by
    rw [gOf_get l1] at q
    cases hm : ms[p]? with
    | none => rw [hm] at q; cases q
    | some m =>
      obtain ⟨h, d, e1, e2, e3⟩ := k p m hm
      rw [hm] at q
      have q : (ds[p]?).map (slotOf m) = some t := q
      rw [e2] at q; cases q
      obtain ⟨v, e4, e5⟩ := kr p h e1
      exact ⟨m, h, d, v, rfl, e1, e4, rfl, e3, e5⟩
  have sv : ∀ (p : Nat) (v : V), vs[p]? = some v → (vs.map some)[p]? = some (some v) := fun p v h => by rw [List.getElem?_map, h]; rfl
  have cellp : ∀ (p : Nat) (d : D), ((gOf ms ds)[p]?).bind Sl.cell = some d → ∃ (i : Nat) (a : Addr), ms[p]? = some Md.mu ∧ hs[p]? = some (Hd.nm i) ∧ (g[i]?).bind Sl.cell = some d ∧ (vs.map some)[p]? = some (some (V.ref a)) ∧ σ[i]? = some (some (V.ref a)) := fun p d c => by
    cases q : (gOf ms ds)[p]? with
    | none => rw [q] at c; cases c
    | some t =>
      rw [q] at c
      obtain ⟨m, h, d', v, e1, e2, e3, e4, e5, e6⟩ := gp p t q
      subst e4
      cases m with
      | im => cases c
      | ro => cases c
      | mu =>
        cases c
        cases h with
        | va _ => cases e5
        | nm i =>
          have e5 : (g[i]?).bind Sl.cell = some d := e5
          obtain ⟨a, ha, _⟩ := S.cell e5
          have e6 : σ[i]? = some (some v) := e6
          rw [ha] at e6; cases e6
          exact ⟨i, a, e1, e2, e5, sv p _ e3, ha⟩
  refine ⟨l1, by omega, S.sub, by rw [gOf_len l1, List.length_map]; omega, fun p t q => ?_, fun p q d e a b x pq c1 c2 e1 e2 f1 f2 => ?_, fun p d a e1 e2 => ?_, S.tb⟩
  · obtain ⟨m, h, d, v, e1, e2, e3, e4, e5, e6⟩ := gp p t q
    subst e4
    cases m with
    | im => cases h with
      | va d' => cases e5; exact ⟨v, sv p v e3, e6⟩
      | nm i => cases e5
    | ro => exact ⟨v, sv p v e3, HdR.rov S e6 e5⟩
    | mu => cases h with
      | va _ => cases e5
      | nm i =>
        have e5 : (g[i]?).bind Sl.cell = some d := e5
        obtain ⟨a, ha, c, n⟩ := S.cell e5
        have e6 : σ[i]? = some (some v) := e6
        rw [ha] at e6; cases e6
        exact ⟨a, sv p _ e3, c, n⟩
  · obtain ⟨i, a', m1, n1, k1, w1, z1⟩ := cellp p d c1
    obtain ⟨j, b', m2, n2, k2, w2, z2⟩ := cellp q e c2
    rw [e1] at w1; cases w1
    rw [e2] at w2; cases w2
    exact S.inj i j d e a b x (fun z => by subst z; exact apart_ok ap p q i pq m1 n1 n2) k1 k2 z1 z2 f1 f2
  · obtain ⟨m, h, d', v, h1, h2, h3, h4, h5, h6⟩ := gp p _ e1
    have hv := sv p v h3
    rw [e2] at hv; cases hv
    cases m with
    | im => cases h4
    | mu => cases h4
    | ro =>
      cases h4
      cases h with
      | va d2 => cases h5; exact .inl h6
      | nm i =>
        have h6 : σ[i]? = some (some (V.ref a)) := h6
        have h5 : Hd.rd g (.nm i) = some d := h5
        refine (Classical.em (Rep K F (.ref a) d)).imp id fun nr o => ?_
        obtain ⟨q, e, b, c, w, f⟩ := o
        obtain ⟨j, b', m1, n1, k1, w1, z1⟩ := cellp q e c
        rw [w] at w1; cases w1
        have ij : i ≠ j := fun z => by
          subst z
          refine apart_ok ap q p i (fun z => ?_) m1 n1 h2
          subst z; rw [h1] at m1; cases m1
        cases hs' : g[i]? with
        | none => simp only [Hd.rd, hs'] at h5; cases h5
        | some s =>
          have cell : ∀ d0, s.cell = some d0 → False := fun d0 hd0 => by
            obtain ⟨a', ha', _⟩ := S.cell (i := i) (d := d0) (by rw [hs']; exact hd0)
            rw [h6] at ha'; cases ha'
            exact S.inj i j d0 e a b a ij (by rw [hs']; exact hd0) k1 h6 z1 (.inl rfl) f
          cases s with
          | un => simp only [Hd.rd, hs'] at h5; cases h5
          | im d0 =>
            simp only [Hd.rd, hs'] at h5; cases h5
            obtain ⟨v0, w0, r0⟩ := S.slot i _ hs'
            rw [h6] at w0; cases w0
            exact nr r0
          | ro d0 =>
            simp only [Hd.rd, hs'] at h5; cases h5
            rcases S.ro i _ a hs' h6 with r | r
            · exact nr r
            · exact r ⟨j, e, b, k1, z1, f⟩
          | ow d0 => exact cell d0 rfl
          | mb d0 => exact cell d0 rfl
theorem putMu_ok : ∀ {ms : List Md} {hs : List Hd} {ds es : List D} {g g' : Gm}, ds.length = ms.length → putMu ms hs es g = some g' → apartB ms hs = true →
    g'.length = g.length ∧ ∀ (i : Nat), (∃ (p : Nat) (s : Sl) (e : D), (ms[p]? = some Md.mu ∧ hs[p]? = some (Hd.nm i)) ∧ g[i]? = some s ∧ (gAft ms ds es)[p]? = some (Sl.mb e) ∧ g'[i]? = some (s.put e)) ∨ ((∀ (p : Nat), ¬ (ms[p]? = some Md.mu ∧ hs[p]? = some (Hd.nm i))) ∧ g'[i]? = g[i]?)
  | [], [], [], _, g, g', _, h, _ => by
    simp only [putMu] at h; cases h
    exact ⟨rfl, fun i => .inr ⟨fun p h => by simp at h, rfl⟩⟩
  | [], _ :: _, _, _, _, _, _, h, _ => by simp [putMu] at h
  | m :: ms, hs, [], _, _, _, l, h, _ => by simp at l
  | [], _, _ :: _, _, _, _, l, h, _ => by simp at l
  | m :: ms, hs, d :: ds, es, g, g', l, h, ap => by
    have l' : ds.length = ms.length := by simpa using l
    cases hs with
    | nil => cases m <;> simp [putMu] at h
    | cons h0 hs =>
      have tail : apartB ms hs = true := by
        cases m <;> cases h0 <;> simp only [apartB, Bool.and_eq_true] at ap <;> first | exact ap.2 | exact ap
      have plain : m ≠ .mu → putMu ms hs es g = some g' → gAft (m :: ms) (d :: ds) es = slotOf m d :: gAft ms ds es → g'.length = g.length ∧ ∀ (i : Nat), (∃ (p : Nat) (s : Sl) (e : D), ((m :: ms)[p]? = some Md.mu ∧ (h0 :: hs)[p]? = some (Hd.nm i)) ∧ g[i]? = some s ∧ (gAft (m :: ms) (d :: ds) es)[p]? = some (Sl.mb e) ∧ g'[i]? = some (s.put e)) ∨ ((∀ (p : Nat), ¬ ((m :: ms)[p]? = some Md.mu ∧ (h0 :: hs)[p]? = some (Hd.nm i))) ∧ g'[i]? = g[i]?) := fun nm h e => by
        obtain ⟨l1, k⟩ := putMu_ok (ds := ds) l' h tail
        refine ⟨l1, fun i => ?_⟩
        rcases k i with ⟨p, s, e', z1, z2, z3, z4⟩ | ⟨z1, z2⟩
        · exact .inl ⟨p + 1, s, e', by simpa using z1, z2, by rw [e]; simpa using z3, z4⟩
        · refine .inr ⟨fun p q => ?_, z2⟩
          cases p with
          | zero => simp at q; exact nm q.1
          | succ p => exact z1 p (by simpa using q)
      cases m with
      | im => exact plain (by decide) (by simpa only [putMu] using h) rfl
      | ro => exact plain (by decide) (by simpa only [putMu] using h) rfl
      | mu =>
        cases h0 with
        | va _ => simp [putMu] at h
        | nm i0 =>
          cases es with
          | nil => simp [putMu] at h
          | cons e0 es =>
            simp only [putMu] at h
            cases hs0 : g[i0]? with
            | none => simp only [hs0] at h; cases h
            | some s0 =>
              simp only [hs0] at h
              obtain ⟨l1, k⟩ := putMu_ok (ds := ds) l' h tail
              have li : i0 < g.length := (List.getElem?_eq_some_iff.mp hs0).1
              refine ⟨by rw [l1, List.length_set], fun i => ?_⟩
              have ni : ∀ (p : Nat), ms[p]? = some Md.mu → hs[p]? = some (Hd.nm i0) → False := fun p e1 e2 => apart_ok ap (p + 1) 0 i0 (by omega) (by simpa using e1) (by simpa using e2) rfl
              by_cases ei : i = i0
              · subst ei
                rcases k i with ⟨p, s, e', z1, z2, z3, z4⟩ | ⟨z1, z2⟩
                · exact (ni p z1.1 z1.2).elim
                · refine .inl ⟨0, s0, e0, ⟨rfl, rfl⟩, hs0, rfl, ?_⟩
                  rw [z2, List.getElem?_set_self li]
              · have eg : (g.set i0 (s0.put e0))[i]? = g[i]? := List.getElem?_set_ne fun z => ei z.symm
                rcases k i with ⟨p, s, e', z1, z2, z3, z4⟩ | ⟨z1, z2⟩
                · exact .inl ⟨p + 1, s, e', by simpa using z1, by rw [← eg]; exact z2, by simpa [gAft] using z3, z4⟩
                · refine .inr ⟨fun p q => ?_, by rw [z2, eg]⟩
                  cases p with
                  | zero => simp at q; exact ei q.symm
                  | succ p => exact z1 p (by simpa using q)
theorem mFrzM_ok {R : List V → Hp → Prop} {ms : List Md} {hs : List Hd} {vs : List V} {F F0 H0 : Hp} {g g0 : Gm} (S : Sta X.K F g σ H) (P : Stp F0 H0 g0 σ F H g σ) (r : HdsR X.K F σ hs vs) (q : Pst X.K W σ (relA X.K) F0 H0 g0 R (mFrzM ms hs g)) : R vs H := by
  induction hs generalizing ms vs F F0 H0 g g0 R with
  | nil =>
    cases r
    have e : mFrzM ms [] g = some (.ok [] g) := by
      cases ms with
      | nil => rfl
      | cons m ms => cases m <;> rfl
    rw [e] at q
    exact q [] F H S P .nil
  | cons h hs ih =>
    cases r with
    | cons r rs =>
      rename_i v vs
      have keep : ∀ {ms : List Md}, Pst X.K W σ (relA X.K) F0 H0 g0 R (((mFrzM ms hs).bind fun hs' => M.ret (h :: hs')) g) → R (v :: vs) H := fun {ms} q =>
        ih (R := fun ws H' => R (v :: ws) H') S Stp.refl rs (Pst_bind P q fun hs' ws F2 H2 g2 S2 P2 P02 r2 q2 => q2 _ F2 H2 S2 P02 (.cons (HdR.mono P2.fg r) r2))
      cases ms with
      | nil => exact q.elim
      | cons m ms => cases m with
        | ro => exact keep q
        | mu => exact keep q
        | im =>
          have q2 : Pst X.K W σ (relE X.K) F H g (fun v' H' => v' = v → H' = H → R (v :: vs) H) (mFrz h g) := Pst_bind P q fun d v' F1 H1 g1 S1 P1 P01 r1 q1 => by
            intro ev eh
            subst ev
            subst eh
            exact ih (R := fun ws H' => R (v' :: ws) H') S1 Stp.refl (HdsR.mono P1.fg rs) (Pst_bind P01 q1 fun hs' ws F2 H2 g2 S2 P2 P02 r2 q2 => q2 _ F2 H2 S2 P02 (.cons (show HdR X.K F2 σ (.va d) v' from Rep.mono P2.fg r1) r2))
          exact mFrz_ok S Stp.refl r q2 rfl rfl
def mCallF (ms : List Md) (f : Fn) (hs : List Hd) : M D := (mFrzM ms hs).bind fun hs => fun g => match argDs g ms hs, apartB ms hs with
  | some ds, true => (match f ds with
    | some (.ret d es) => (match putMu ms hs es g with
      | some g' => some (.ok d g')
      | none => none)
    | some (.exc c es) => (match putMu ms hs es g with
      | some g' => some (.ex c g')
      | none => none)
    | _ => none)
  | _, _ => none
def mCallN (ms : List Md) (f : Fn) (hs : List Hd) : M D := (mFrzM ms hs).bind fun hs => fun g => match argDs g ms hs, apartB ms hs with
  | some ds, true => (match f ds with
    | some (.new d es) => (match putMu ms hs es g with
      | some g' => some (.ok d g')
      | none => none)
    | some (.exc c es) => (match putMu ms hs es g with
      | some g' => some (.ex c g')
      | none => none)
    | _ => none)
  | _, _ => none
theorem call_back {ms : List Md} {hs : List Hd} {ds es : List D} {vs : List V} {F' H' : Hp} {g' : Gm} (S : Sta X.K F g σ H) (r : HdsR X.K F σ hs vs) (e : argDs g ms hs = some ds) (ap : apartB ms hs = true) (pm : putMu ms hs es g = some g')
    (S' : Sta X.K F' (gAft ms ds es) (vs.map some) H') (P : Stp F H (gOf ms ds) (vs.map some) F' H' (gAft ms ds es) (vs.map some)) : Sta X.K F' g' σ H' ∧ Stp F H g σ F' H' g' σ ∧ ∀ x, Own g' σ H' x → Own (gAft ms ds es) (vs.map some) H' x ∨ Own g σ H x := by
  obtain ⟨l1, l2, k⟩ := argDs_get e
  obtain ⟨l3, kr⟩ := r.get
  obtain ⟨n1, n2⟩ := putMu_ok (ds := ds) l1 pm ap
  refine Sta.called S P S' (fun p i => ms[p]? = some .mu ∧ hs[p]? = some (.nm i)) (fun p i ⟨h1, h2⟩ => ?_) (fun p d c => ?_) (fun p i j h1 h2 => ?_) n1 n2
  · obtain ⟨h, d, e1, e2, e3⟩ := k p _ h1
    rw [h2] at e1; cases e1
    obtain ⟨v, e4, e5⟩ := kr p _ h2
    exact ⟨by rw [List.getElem?_map, e4]; exact (show σ[i]? = some (some v) from e5).symm, d, e3⟩
  · rw [gOf_get l1] at c
    cases hm : ms[p]? with
    | none => rw [hm] at c; cases c
    | some m =>
      obtain ⟨h, d', e1, e2, e3⟩ := k p m hm
      rw [hm] at c
      have c : ((ds[p]?).map (slotOf m)).bind Sl.cell = some d := c
      rw [e2] at c
      cases m with
      | im => cases c
      | ro => cases c
      | mu => cases h with
        | va _ => cases e3
        | nm i => exact ⟨i, rfl, e1⟩
  · have := h1.2.symm.trans h2.2
    cases this; rfl
theorem callF_ok {ms : List Md} {f : Fn} {hs : List Hd} {vs : List V} {Q : VK} (S : Sta X.K F g σ H) (P0 : Stp F0 H0 g0 σ F H g σ) (r : HdsR X.K F σ hs vs) (q : Pst X.K W σ (relE X.K) F0 H0 g0 Q (mCallF ms f hs g)) : spF X.K ms f vs H Q (WE W σ) := by
  refine mFrzM_ok (W := W) (ms := ms) (R := fun vs H => spF X.K ms f vs H Q (WE W σ)) S Stp.refl r (Pst_bind P0 q fun hs vs F1 H1 g1 S1 P1 P01 r1 q1 => ?_)
  cases e : argDs g1 ms hs with
  | none => simp only [e] at q1; exact q1.elim
  | some ds =>
    cases ap : apartB ms hs with
    | false => simp only [e, ap] at q1; exact q1.elim
    | true =>
      simp only [e, ap] at q1
      obtain ⟨l1, l2, Sp⟩ := callee_sta S1 r1 e ap
      refine ⟨F1, ds, l1, l2, Sp, ?_⟩
      cases hf : f ds with
      | none => simp only [hf] at q1; exact q1.elim
      | some fr =>
        cases fr with
        | new d es => simp only [hf] at q1; exact q1.elim
        | ret d es =>
          simp only [hf] at q1
          cases pm : putMu ms hs es g1 with
          | none => simp only [pm] at q1; exact q1.elim
          | some g2 =>
            simp only [pm] at q1
            intro v F' H' S' P' rv
            obtain ⟨S2, P2, O2⟩ := call_back S1 r1 e ap pm S' P'
            exact q1 v F' H' S2 (P01.trans P2) rv
        | exc c es =>
          simp only [hf] at q1
          cases pm : putMu ms hs es g1 with
          | none => simp only [pm] at q1; exact q1.elim
          | some g2 =>
            simp only [pm] at q1
            intro F' H' S' P'
            obtain ⟨S2, P2, O2⟩ := call_back S1 r1 e ap pm S' P'
            exact q1 F' H' S2 (P01.trans P2)
theorem callN_ok {ms : List Md} {f : Fn} {hs : List Hd} {vs : List V} {Q : VK} (S : Sta X.K F g σ H) (P0 : Stp F0 H0 g0 σ F H g σ) (r : HdsR X.K F σ hs vs) (q : Pst X.K W σ (relN X.K) F0 H0 g0 Q (mCallN ms f hs g)) : spF X.K ms f vs H Q (WE W σ) := by
  refine mFrzM_ok (W := W) (ms := ms) (R := fun vs H => spF X.K ms f vs H Q (WE W σ)) S Stp.refl r (Pst_bind P0 q fun hs vs F1 H1 g1 S1 P1 P01 r1 q1 => ?_)
  cases e : argDs g1 ms hs with
  | none => simp only [e] at q1; exact q1.elim
  | some ds =>
    cases ap : apartB ms hs with
    | false => simp only [e, ap] at q1; exact q1.elim
    | true =>
      simp only [e, ap] at q1
      obtain ⟨l1, l2, Sp⟩ := callee_sta S1 r1 e ap
      refine ⟨F1, ds, l1, l2, Sp, ?_⟩
      cases hf : f ds with
      | none => simp only [hf] at q1; exact q1.elim
      | some fr =>
        cases fr with
        | ret d es => simp only [hf] at q1; exact q1.elim
        | new d es =>
          simp only [hf] at q1
          cases pm : putMu ms hs es g1 with
          | none => simp only [pm] at q1; exact q1.elim
          | some g2 =>
            simp only [pm] at q1
            intro a F' H' S' P' c n
            obtain ⟨S2, P2, O2⟩ := call_back S1 r1 e ap pm S' P'
            refine q1 _ F' H' S2 (P01.trans P2) ⟨a, rfl, c, fun x fx => ⟨(n x fx).1, fun o => ?_, Classical.byContradiction fun h0 => P01.st x h0 (n x fx).2.2⟩⟩
            rcases O2 x o with o' | o'
            · exact (n x fx).2.1 o'
            · obtain ⟨u, hu⟩ := S1.own_at o'
              rw [(n x fx).2.2] at hu; cases hu
        | exc c es =>
          simp only [hf] at q1
          cases pm : putMu ms hs es g1 with
          | none => simp only [pm] at q1; exact q1.elim
          | some g2 =>
            simp only [pm] at q1
            intro F' H' S' P'
            obtain ⟨S2, P2, O2⟩ := call_back S1 r1 e ap pm S' P'
            exact q1 F' H' S2 (P01.trans P2)
end
end Cq

set_option Elab.async false
set_option linter.all false
set_option maxRecDepth 100000
namespace Cq
open PySem PySem.Spec PyProof.Rows L2
def endMs : List Md → Gm → Option (List D)
  | [], _ => some []
  | .mu :: ms, .mb e :: g => (match endMs ms g with
    | some es => some (e :: es)
    | none => none)
  | .mu :: _, _ => none
  | _ :: ms, _ :: g => endMs ms g
  | _ :: _, [] => none
def runDef (ms : List Md) (n : Nat) (m : M Fl) : Fn := fun ds => match m (gOf ms ds ++ List.replicate (n - ms.length) .un) with
  | some (.ok (.rt d) g) => (match endMs ms g with
    | some es => some (.ret d es)
    | none => none)
  | some (.ok (.rn d) g) => (match endMs ms g with
    | some es => some (.new d es)
    | none => none)
  | some (.ok .nx g) => (match endMs ms g with
    | some es => some (.ret .non es)
    | none => none)
  | some (.ex c g) => (match endMs ms g with
    | some es => some (.exc c es)
    | none => none)
  | _ => none
section
variable {K : Frag} {σ : L2.St} {F H F' H' : Hp} {g g' : Gm}
theorem endMs_get : ∀ {ms : List Md} {g : Gm} {es : List D} {ds : List D}, ds.length = ms.length → endMs ms g = some es → (gAft ms ds es).length = ms.length ∧ ∀ (p : Nat) (m : Md) (d : D), ms[p]? = some m → ds[p]? = some d → (m = .mu ∧ ∃ e, (gAft ms ds es)[p]? = some (.mb e) ∧ g[p]? = some (.mb e)) ∨ (m ≠ .mu ∧ (gAft ms ds es)[p]? = some (slotOf m d))
  | [], _, _, [], _, h => ⟨rfl, fun p m d h => by simp at h⟩
  | [], _, _, _ :: _, l, _ => by simp at l
  | _ :: _, _, _, [], l, _ => by simp at l
  | m :: ms, g, es, d :: ds, l, h => by
    have l' : ds.length = ms.length := by simpa using l
    have plain : ∀ (s : Sl) (g0 : Gm), m ≠ .mu → g = s :: g0 → endMs ms g0 = some es → gAft (m :: ms) (d :: ds) es = slotOf m d :: gAft ms ds es → _ := fun s g0 nm eg he ea => by
      obtain ⟨l1, k⟩ := endMs_get (ds := ds) l' he
      show (gAft (m :: ms) (d :: ds) es).length = (m :: ms).length ∧ ∀ (p : Nat) (m' : Md) (d' : D), (m :: ms)[p]? = some m' → (d :: ds)[p]? = some d' → (m' = .mu ∧ ∃ e, (gAft (m :: ms) (d :: ds) es)[p]? = some (.mb e) ∧ g[p]? = some (.mb e)) ∨ (m' ≠ .mu ∧ (gAft (m :: ms) (d :: ds) es)[p]? = some (slotOf m' d'))
      rw [ea, eg]
      refine ⟨by simp [l1], fun p m' d' h1 h2 => ?_⟩
      cases p with
      | zero => simp at h1 h2; subst h1; subst h2; exact .inr ⟨nm, rfl⟩
      | succ p => simpa using k p m' d' (by simpa using h1) (by simpa using h2)
    cases m with
    | im => cases g with
      | nil => simp [endMs] at h
      | cons s g0 => exact plain s g0 (by decide) rfl (by simpa only [endMs] using h) rfl
    | ro => cases g with
      | nil => simp [endMs] at h
      | cons s g0 => exact plain s g0 (by decide) rfl (by simpa only [endMs] using h) rfl
    | mu => cases g with
      | nil => simp [endMs] at h
      | cons s g0 => cases s with
        | mb e =>
          simp only [endMs] at h
          cases q : endMs ms g0 with
          | none => simp only [q] at h; cases h
          | some es' =>
            simp only [q] at h
            cases h
            obtain ⟨l1, k⟩ := endMs_get (ds := ds) l' q
            refine ⟨by simp [gAft, l1], fun p m' d' h1 h2 => ?_⟩
            cases p with
            | zero => simp at h1 h2; subst h1; subst h2; exact .inl ⟨rfl, e, rfl, rfl⟩
            | succ p => simpa [gAft] using k p m' d' (by simpa using h1) (by simpa using h2)
        | un => simp [endMs] at h
        | im _ => simp [endMs] at h
        | ro _ => simp [endMs] at h
        | ow _ => simp [endMs] at h
/-- from the body's end back to the parameters -/
theorem def_end {ms : List Md} {ds es : List D} {vs : List V} {n : Nat} {σ' : L2.St} (l1 : ds.length = ms.length) (l2 : vs.length = ms.length) (S : Sta K F (gOf ms ds) (vs.map some) H) (S' : Sta K F' g' σ' H')
    (P : Stp F H (gOf ms ds ++ List.replicate n .un) (vs.map some ++ List.replicate n none) F' H' g' σ') (he : endMs ms g' = some es) :
    Sta K F' (gAft ms ds es) (vs.map some) H' ∧ Stp F H (gOf ms ds) (vs.map some) F' H' (gAft ms ds es) (vs.map some) ∧ (∀ x, Own (gAft ms ds es) (vs.map some) H' x → ∃ (i : Nat) (d : D) (b : Addr), g'[i]? = some (Sl.mb d) ∧ σ'[i]? = some (some (V.ref b)) ∧ Foot H' b x)
      ∧ (∀ x, Own (gOf ms ds) (vs.map some) H x → ∃ (i : Nat) (d : D) (b : Addr), g'[i]? = some (Sl.mb d) ∧ σ'[i]? = some (some (V.ref b)) ∧ Foot H' b x) := by
  obtain ⟨la, k⟩ := endMs_get l1 he
  have lg := gOf_len l1
  -- places
  have pl : ∀ (p : Nat) (s : Sl), (gAft ms ds es)[p]? = some s → ∃ m d, ms[p]? = some m ∧ ds[p]? = some d ∧ (gOf ms ds)[p]? = some (slotOf m d) := fun p s h => by
    have hp : p < ms.length := by rw [← la]; exact (List.getElem?_eq_some_iff.mp h).1
    have h1 : ms[p]? = some ms[p] := List.getElem?_eq_getElem hp
    have h2 : ds[p]? = some (ds[p]'(by omega)) := List.getElem?_eq_getElem (by omega)
    exact ⟨_, _, h1, h2, by rw [gOf_get l1, h1]; simp [h2]⟩
  have mus : ∀ (p : Nat) (d : D), ((gAft ms ds es)[p]?).bind Sl.cell = some d → ms[p]? = some Md.mu ∧ (gAft ms ds es)[p]? = some (Sl.mb d) ∧ g'[p]? = some (Sl.mb d) ∧ σ'[p]? = (vs.map some)[p]? ∧ ∃ d0, (gOf ms ds)[p]? = some (slotOf Md.mu d0) := fun p d c => by
    cases q : (gAft ms ds es)[p]? with
    | none => rw [q] at c; cases c
    | some s =>
      obtain ⟨m, d0, e1, e2, e3⟩ := pl p s q
      rcases k p m d0 e1 e2 with ⟨rfl, e, h1, h2⟩ | ⟨h1, h2⟩
      · rw [q] at h1; cases h1
        rw [q] at c; cases c
        obtain ⟨_, h4⟩ := P.kmb p _ h2
        rw [sext (n := 0) S.len e3] at h4
        exact ⟨e1, rfl, h2, h4, d0, e3⟩
      · rw [q] at h2; cases h2
        rw [q] at c
        cases m with
        | mu => exact absurd rfl h1
        | im => cases c
        | ro => cases c
  have noww : ∀ (p : Nat) (d : D), (gAft ms ds es)[p]? = some (Sl.ow d) → False := fun p d h => by
    obtain ⟨m, d0, e1, e2, e3⟩ := pl p _ h
    rcases k p m d0 e1 e2 with ⟨rfl, e, h1, h2⟩ | ⟨h1, h2⟩
    · rw [h] at h1; cases h1
    · rw [h] at h2; cases m <;> cases h2
  have own1 : ∀ x, Own (gAft ms ds es) (vs.map some) H' x → ∃ (i : Nat) (d : D) (b : Addr), g'[i]? = some (Sl.mb d) ∧ σ'[i]? = some (some (V.ref b)) ∧ Foot H' b x := fun x ⟨p, d, a, c, e, f⟩ => by
    obtain ⟨_, _, h3, h4, _⟩ := mus p d c
    exact ⟨p, d, a, h3, by rw [h4]; exact e, f⟩
  have own1' : ∀ x, Own (gAft ms ds es) (vs.map some) H' x → Own g' σ' H' x := fun x o => let ⟨i, d, b, h1, h2, h3⟩ := own1 x o; ⟨i, d, b, by rw [h1]; rfl, h2, h3⟩
  have own2 : ∀ x, Own (gOf ms ds) (vs.map some) H x → ∃ (i : Nat) (d : D) (b : Addr), g'[i]? = some (Sl.mb d) ∧ σ'[i]? = some (some (V.ref b)) ∧ Foot H' b x := fun x ⟨p, d, a, c, e, f⟩ => by
    cases q : (gOf ms ds)[p]? with
    | none => rw [q] at c; cases c
    | some s =>
      have hp : p < ms.length := by rw [← lg]; exact (List.getElem?_eq_some_iff.mp q).1
      have h1 : ms[p]? = some ms[p] := List.getElem?_eq_getElem hp
      have h2 : ds[p]? = some (ds[p]'(by omega)) := List.getElem?_eq_getElem (by omega)
      have q' := q
      rw [gOf_get l1, h1] at q'
      have q' : (ds[p]?).map (slotOf ms[p]) = some s := q'
      rw [h2] at q'
      have es : s = slotOf ms[p] (ds[p]'(by omega)) := (Option.some.inj q').symm
      rw [q] at c
      rcases k p _ _ h1 h2 with ⟨hm, e', z1, z2⟩ | ⟨hm, _⟩
      · obtain ⟨_, h4⟩ := P.kmb p _ z2
        rw [sext (n := 0) S.len q] at h4
        refine ⟨p, e', a, z2, by rw [h4]; exact e, ?_⟩
        rcases f with f | ⟨C, dx0, fv, f, qf⟩
        · exact .inl f
        · obtain ⟨fv', z, kq⟩ := P.ki _ _ _ _ f
          exact .inr ⟨C, dx0, fv', z, qf.imp id (kq _)⟩
      · rw [es] at c
        cases hmm : ms[p] with
        | mu => exact absurd hmm hm
        | im => rw [hmm] at c; cases c
        | ro => rw [hmm] at c; cases c
  refine ⟨⟨S'.sub, by rw [la, List.length_map, l2], fun p s h => ?_, fun i j d e a b x ij c1 c2 e1 e2 f1 f2 => ?_, fun i d a e1 e2 => ?_, S'.tb⟩, ⟨P.fg, P.st, fun x o h1 nb h2 h3 => P.fr x o h1 nb h2 fun ow => h3 (own_ext S ow), fun x o => ?_, fun i d h => ?_, fun i d h => ?_, P.ki⟩, own1, own2⟩
  · obtain ⟨m, d0, e1, e2, e3⟩ := pl p s h
    rcases k p m d0 e1 e2 with ⟨rfl, e, h1, h2⟩ | ⟨h1, h2⟩
    · rw [h] at h1; cases h1
      obtain ⟨_, _, _, h4, _⟩ := mus p e (by rw [h]; rfl)
      have z := S'.slot p _ h2
      rw [h4] at z; exact z
    · rw [h] at h2; cases h2
      have z := S.slot p _ e3
      cases m with
      | mu => exact absurd rfl h1
      | im => obtain ⟨v, w, r⟩ := z; exact ⟨v, w, r.mono P.fg⟩
      | ro =>
        obtain ⟨v, w, r⟩ := z
        refine ⟨v, w, ?_⟩
        rcases r with r | ⟨a, rfl, c, n⟩
        · exact .inl (r.mono P.fg)
        · rcases S.ro p d0 a e3 w with r | r
          · exact .inl (r.mono P.fg)
          · obtain ⟨u, hu⟩ := c.at
            have same : H' a = some u := by
              cases hf : F a with
              | none => exact (P.fr a u hu (c.dt (.inl rfl) hu).1 (fun _ => hf) fun ow => r (own_ext S ow)).1
              | some o =>
                have := S.sub _ _ hf
                rw [hu] at this; cases this
                exact S'.sub _ _ (P.fg _ _ hf)
            exact .inr ⟨a, rfl, c.same P.fg fun x o f hx => by
              cases n x f
              rw [hu] at hx; cases hx; exact same, fun x f => n x (f.same hu (by rw [same, hu]))⟩
  · obtain ⟨_, _, h3, h4, _⟩ := mus i d c1
    obtain ⟨_, _, h5, h6, _⟩ := mus j e c2
    exact S'.inj i j d e a b x ij (by rw [h3]; rfl) (by rw [h5]; rfl) (by rw [h4]; exact e1) (by rw [h6]; exact e2) f1 f2
  · obtain ⟨m, d0, z1, z2, z3⟩ := pl i _ e1
    rcases k i m d0 z1 z2 with ⟨rfl, e, h1, h2⟩ | ⟨h1, h2⟩
    · rw [e1] at h1; cases h1
    · rw [e1] at h2
      cases m with
      | im => cases h2
      | mu => cases h2
      | ro =>
        cases h2
        refine (Classical.em (Rep K F' (.ref a) d)).imp id fun nr ow => ?_
        rcases S.ro i d a z3 e2 with r | r
        · exact nr (r.mono P.fg)
        · rcases P.own a (own1' a ow) with o | o
          · exact r (own_ext S o)
          · obtain ⟨v, w, rv⟩ := S.slot i _ z3
            rw [e2] at w; cases w
            rcases rv with rv | ⟨_, z, c, _⟩
            · exact nr (rv.mono P.fg)
            · cases z
              obtain ⟨u, hu⟩ := c.at
              rw [o] at hu; cases hu
  · rcases P.own x (own1' x o) with o | o
    · exact .inl (own_ext S o)
    · exact .inr o
  · obtain ⟨m, d0, z1, z2, z3⟩ := pl i _ h
    rcases k i m d0 z1 z2 with ⟨rfl, e, h1, h2⟩ | ⟨h1, h2⟩
    · rw [h] at h1; cases h1
    · rw [h] at h2
      cases m with
      | im => cases h2
      | mu => cases h2
      | ro => cases h2; exact ⟨z3, rfl⟩
  · obtain ⟨_, _, _, _, d0, h5⟩ := mus i d (by rw [h]; rfl)
    exact ⟨⟨d0, h5⟩, rfl⟩
end
/-- the reading of a body at its parameters -/
theorem def_reads {K : Frag} {W : WX} {E : XK} {ms : List Md} {n : Nat} {m : M Fl} {vs : List V} {H : Hp} {Q : VK} (hW : ∀ cls σ H, E cls none H → W cls none σ H) (h : spF K ms (runDef ms n m) vs H Q E) :
    tS K W m { nx := fun _ H' => Q .non H', rt := Q } (vs.map some ++ List.replicate (n - ms.length) none) H := by
  obtain ⟨F, ds, l1, l2, S, h⟩ := h
  refine ⟨F, _, S.ext, ?_⟩
  unfold runDef at h
  cases o : m (gOf ms ds ++ List.replicate (n - ms.length) .un) with
  | none => simp only [o] at h
  | some r => cases r with
    | ex c g =>
      simp only [o] at h
      cases he : endMs ms g with
      | none => simp only [he] at h
      | some es =>
        simp only [he] at h
        intro F' σ' H' S' P'
        obtain ⟨z1, z2, _, _⟩ := def_end l1 l2 S S' P' he
        exact hW _ _ _ (h F' H' z1 z2)
    | ok f g =>
      cases f with
      | bk => simp only [o] at h
      | ct => simp only [o] at h
      | nx =>
        simp only [o] at h
        cases he : endMs ms g with
        | none => simp only [he] at h
        | some es =>
          simp only [he] at h
          intro F' σ' H' S' P'
          obtain ⟨z1, z2, _, _⟩ := def_end l1 l2 S S' P' he
          exact h _ F' H' z1 z2 .non
      | rt d =>
        simp only [o] at h
        cases he : endMs ms g with
        | none => simp only [he] at h
        | some es =>
          simp only [he] at h
          intro v F' σ' H' S' P' r
          obtain ⟨z1, z2, _, _⟩ := def_end l1 l2 S S' P' he
          exact h v F' H' z1 z2 r
      | rn d =>
        simp only [o] at h
        cases he : endMs ms g with
        | none => simp only [he] at h
        | some es =>
          simp only [he] at h
          intro v F' σ' H' S' P' ⟨a, ev, c, k⟩
          subst ev
          obtain ⟨z1, z2, z3, z4⟩ := def_end l1 l2 S S' P' he
          refine h a F' H' z1 z2 c fun x fx => ?_
          obtain ⟨k1, k2, k3⟩ := k x fx
          refine ⟨k1, fun ow => ?_, ?_⟩
          · obtain ⟨i, d', b, w1, w2, w3⟩ := z3 x ow
            exact k3 i d' w1 b w2 w3
          · rcases k2 with k2 | k2
            · obtain ⟨i, d', b, w1, w2, w3⟩ := z4 x (own_ext S k2)
              exact (k3 i d' w1 b w2 w3).elim
            · exact k2
end Cq

set_option Elab.async false
set_option linter.all false
set_option maxRecDepth 100000
namespace Cq
open PySem PySem.Spec PyProof.Rows L2
/-- the wish of a def's body: what its caller wants of an exception -/
abbrev wE (E : XK) : WX := fun cls d _ H => E cls d H
section
variable {P : Program} {w : World} {K : Frag} {mg : Str → Option Value} {base : Heap} {x qual : Str} {params : Arguments} {body : List Stmt} {scope : Scope} {f : Addr} {fd : FuncData}
/-- a def of the text keeps its contract -/
theorem fnr {k : Nat} {N ps : List Str} {ms : List Md} {m : M Fl} (F : FunD K x qual params body scope [] [] f fd) (S : FnScope N ps scope) (hl : ms.length = ps.length)
    (hb : ∀ (kV doc pm : Value) (an : Option Addr) (cdv ct : Value) (us : List Value), us.length = ps.length → bindArgs (PySem.W.fnOf x qual params body scope .none kV doc pm an cdv ct) ⟨us, []⟩ = pure (ps.zip us))
    (hbody : ∀ (cdv : Value) (A : Around) (outer : List PySem.Env) (s : Shared) (H : Hp) (E : XK), Room k (A.deeper (envOfC qual scope s.heap.objs.size f cdv)) → Takes (cxOf (L2.CX P w) P w K mg base N qual scope f cdv A outer s H E) (wE E) →
      PassesOwn (model P w) (A.deeper (envOfC qual scope s.heap.objs.size f cdv)) (envOfC qual scope s.heap.objs.size f cdv) (cxOf (L2.CX P w) P w K mg base N qual scope f cdv A outer s H E).xe →
      SSs (cxOf (L2.CX P w) P w K mg base N qual scope f cdv A outer s H E) (wE E) body m) :
    FnR P w K mg base (L2.CX P w) (k + 1) f (spF K ms (runDef ms N.length m)) := by
  have len : ∀ vs H Q E, spF K ms (runDef ms N.length m) vs H Q E → vs.length = ps.length := fun vs H Q E ⟨_, _, _, l, _⟩ => l.trans hl
  have G : FnOk P w K mg base (L2.CX P w) (k + 1) f fd ps (spF K ms (runDef ms N.length m)) := by
    refine F.ok S len fun cdv A outer s H vs Q E hr h => ⟨_, hbody cdv A outer s H E hr (takes_of rfl rfl rfl rfl) (passes_of rfl), ?_⟩
    have e : start N vs = vs.map some ++ List.replicate (N.length - ms.length) none := by
      unfold L2.start
      rw [len _ _ _ _ h, hl]
    rw [e]
    exact def_reads (fun _ _ _ z => z) h
  exact (G.raw (F.bindsN hb) .nil).imp fun vs H Q E h => by rw [List.append_nil]; exact h
end
def CalR (X : Cx) (W : WX) (u : Value) (sp : Sp) : Prop := ∀ (pins : List (Addr × Obj)) (s : Shared) (σ : L2.St) (H : Hp) (us : List Value) (vs : List V) (Q : VK), Inv X pins σ H s → Vals vs us → sp vs H Q (WE W σ) →
  wpAny (model X.prog X.w) X.A (call u us) (EP X pins σ Q) X.xe s
section
variable {X : Cx} {W : WX} {pos p : Pos} {σ : L2.St} {F H F0 H0 : Hp} {g g0 : Gm} {e : Expr} {es : List Expr} {x : Str} {u : Value}
theorem calR_fn {k : Nat} {f : Addr} {sp : Sp} (F : FnR X.prog X.w X.K X.mg X.base (L2.CX X.prog X.w) k f sp) (hr : Room k X.A) (tk : Takes X W) : CalR X W (.ref f) sp := by
  intro pins s σ H us vs Q I r h
  refine wpAny_call (codeAny_mono (F X.A X.stack s H us vs Q (WE W σ) hr I.env0 r h) fun r s' hq => ?_)
  cases r with
  | error e => exact passAt tk σ pins H s e s' I hq
  | ok fl =>
    cases fl with
    | ret u => exact I.after hq
    | next => exact False.elim hq
    | brk => exact False.elim hq
    | cont => exact False.elim hq
theorem pe_calR {sp : Sp} {t : TA} (C : CalR X W u sp) (hg : Gl X x) (hm : X.mg x = some u) (hk : PySem.W.keepIn X.K u = true) (ha : PA X (e :: es) t) (hdb : (x == ("__debug__" : Str)) = false := by decide)
    (he : starEach (e :: es) X.env = (false, eval e X.env) :: starEach es X.env := by rfl) (hpl : (backTo pos (starEach es X.env)).any (·.1) = false := by rfl) :
    PE X (.Call (.Name x p) (e :: es) [] pos) (fun σ H Q => t σ H fun vs H1 => sp vs H1 Q (WE W σ)) := by
  refine ⟨fun pins s σ H Q I h => ?_⟩
  refine wpAny_Call_Name_kw (ld_glob I hg hm ?_ hdb)
  refine PySem.W.callWith_K (h₀ := X.base) I.ok.mod.kin hk (thn (ha.run pos pins s σ H _ I h) fun us s1 ⟨vs, H1, I1, r, q⟩ => ⟨I1.kIn, ?_⟩) he hpl
  exact C pins s1 σ H1 us vs Q I1 r q
theorem se_call {ms : List Md} {f : Fn} {ma : M (List Hd)} (C : CalR X W u (spF X.K ms f)) (hg : Gl X x) (hm : X.mg x = some u) (hk : PySem.W.keepIn X.K u = true) (ha : SA X W (e :: es) ma) (hdb : (x == ("__debug__" : Str)) = false := by decide)
    (he : starEach (e :: es) X.env = (false, eval e X.env) :: starEach es X.env := by rfl) (hpl : (backTo pos (starEach es X.env)).any (·.1) = false := by rfl) : SE X W (.Call (.Name x p) (e :: es) [] pos) (ma.bind (mCallF ms f)) :=
  PE_imp (pe_calR C hg hm hk ha hdb he hpl) fun σ H Q q => by
    obtain ⟨F, g, S, q⟩ := q
    exact ⟨F, g, S, Pst_bind Stp.refl q fun hs vs F1 H1 g1 S1 P1 P01 r1 q1 => callF_ok S1 P01 r1 q1⟩
theorem sn_call {ms : List Md} {f : Fn} {ma : M (List Hd)} (C : CalR X W u (spF X.K ms f)) (hg : Gl X x) (hm : X.mg x = some u) (hk : PySem.W.keepIn X.K u = true) (ha : SA X W (e :: es) ma) (hdb : (x == ("__debug__" : Str)) = false := by decide)
    (he : starEach (e :: es) X.env = (false, eval e X.env) :: starEach es X.env := by rfl) (hpl : (backTo pos (starEach es X.env)).any (·.1) = false := by rfl) : SN X W (.Call (.Name x p) (e :: es) [] pos) (ma.bind (mCallN ms f)) :=
  PE_imp (pe_calR C hg hm hk ha hdb he hpl) fun σ H Q q => by
    obtain ⟨F, g, S, q⟩ := q
    exact ⟨F, g, S, Pst_bind Stp.refl q fun hs vs F1 H1 g1 S1 P1 P01 r1 q1 => callN_ok S1 P01 r1 q1⟩
end
end Cq

set_option Elab.async false
set_option linter.all false
set_option maxRecDepth 100000
namespace Cq
open PySem PySem.Spec PyProof.Rows L2
def wipeG (g : Gm) : List Nat → Gm
  | [] => g
  | v :: vs => (wipeG g vs).set v .un
def restG (g0 : Gm) (g : Gm) : List Nat → Gm
  | [] => g
  | v :: vs => match g0[v]? with
    | some s => (restG g0 g vs).set v s
    | none => restG g0 g vs
def lcL (T : Tgt) (c : M Bool) (e : M D) (vs : List Nat) : List D → Gm → Option (List D × Gm)
  | [], g => some ([], g)
  | d :: ds, g => match T d (wipeG g vs) with
    | none => none
    | some g1 => match c g1 with
      | some (.ok true g2) => (match e g2 with
        | some (.ok y g3) => (match lcL T c e vs ds g3 with
          | some (ys, g4) => some (y :: ys, g4)
          | none => none)
        | _ => none)
      | some (.ok false g2) => lcL T c e vs ds g2
      | _ => none
def Sl.plain : Sl → Bool
  | .un => true
  | .im _ => true
  | _ => false
def plainAt (g : Gm) (vs : List Nat) : Bool := vs.all fun i => match g[i]? with
  | some s => s.plain
  | none => false
def mLc (l : Option Nat) (it : M (List D)) (vs : List Nat) (T : Tgt) (c : M Bool) (e : M D) : M D := it.bind fun ds => fun g =>
  if plainAt (lendOut l g) vs = true then (match lcL T c e vs ds (lendOut l g) with
    | some (ys, g2) => if ds.length ≤ 1000000 then (match lendIn l g (restG (lendOut l g) (wipeG g2 vs) vs) with
      | some g3 => some (.ok (.lst ys) g3)
      | none => none) else none
    | none => none) else none
def W0 : WX := fun _ _ _ _ => False
section
variable {K : Frag} {σ : L2.St} {F H F' H' : Hp} {g g' : Gm}
theorem wipeG_get {vs : List Nat} {j : Nat} {s : Sl} (h : (wipeG g vs)[j]? = some s) : (j ∈ vs ∧ s = .un) ∨ (j ∉ vs ∧ g[j]? = some s) := by
  induction vs generalizing s with
  | nil => exact .inr ⟨by simp, h⟩
  | cons v vs ih =>
    rcases set_get (show ((wipeG g vs).set v .un)[j]? = some s from h) with ⟨h1, h2⟩ | ⟨h1, h2⟩
    · exact .inl ⟨by simp [h1], h2⟩
    · rcases ih h2 with ⟨h3, h4⟩ | ⟨h3, h4⟩
      · exact .inl ⟨List.mem_cons_of_mem _ h3, h4⟩
      · exact .inr ⟨by simp only [List.mem_cons, not_or]; exact ⟨h1, h3⟩, h4⟩
theorem wipeG_len {vs : List Nat} : (wipeG g vs).length = g.length := by
  induction vs with
  | nil => rfl
  | cons v vs ih => show ((wipeG g vs).set v .un).length = _; rw [List.length_set, ih]
theorem wipeG_cell {vs : List Nat} {j : Nat} {d : D} (h : ((wipeG g vs)[j]?).bind Sl.cell = some d) : j ∉ vs ∧ (g[j]?).bind Sl.cell = some d := by
  cases q : (wipeG g vs)[j]? with
  | none => rw [q] at h; cases h
  | some s =>
    rw [q] at h
    rcases wipeG_get q with ⟨_, z⟩ | ⟨z1, z2⟩
    · subst z; cases h
    · exact ⟨z1, by rw [z2]; exact h⟩
theorem Sta.wipe {vs : List Nat} (S : Sta K F g σ H) : Sta K F (wipeG g vs) (L2.wipe σ vs) H := by
  have ow : ∀ x, Own (wipeG g vs) (L2.wipe σ vs) H x → Own g σ H x := fun x ⟨i, d, a, c, e, f⟩ => by
    obtain ⟨h1, h2⟩ := wipeG_cell c
    rw [L2.wipe_out h1] at e
    exact ⟨i, d, a, h2, e, f⟩
  refine ⟨S.sub, by rw [wipeG_len, L2.wipe_length, S.len], fun j s e => ?_, fun i j d e a b x ij c1 c2 e1 e2 => ?_, fun i d a e1 e2 => ?_, S.tb⟩
  · rcases wipeG_get e with ⟨_, z⟩ | ⟨z1, z2⟩
    · subst z; trivial
    · rw [L2.wipe_out z1]; exact S.slot j s z2
  · obtain ⟨h1, h2⟩ := wipeG_cell c1
    obtain ⟨h3, h4⟩ := wipeG_cell c2
    rw [L2.wipe_out h1] at e1
    rw [L2.wipe_out h3] at e2
    exact S.inj i j d e a b x ij h2 h4 e1 e2
  · rcases wipeG_get e1 with ⟨_, z⟩ | ⟨z1, z2⟩
    · cases z
    · rw [L2.wipe_out z1] at e2
      exact (S.ro i d a z2 e2).imp id fun r o => r (ow a o)
theorem Stp.wipe {vs : List Nat} : Stp F H g σ F H (wipeG g vs) (L2.wipe σ vs) := by
  refine ⟨Sub.refl _, fun _ h => h, fun x o h1 _ h2 _ => ⟨h1, h2⟩, fun x ⟨i, d, a, c, e, f⟩ => ?_, fun i d h => ?_, fun i d h => ?_, fun _ _ _ fv h => ⟨fv, h, fun _ q => q⟩⟩
  · obtain ⟨h1, h2⟩ := wipeG_cell c
    rw [L2.wipe_out h1] at e
    exact .inl ⟨i, d, a, h2, e, f⟩
  · rcases wipeG_get h with ⟨_, z⟩ | ⟨z1, z2⟩
    · cases z
    · exact ⟨z2, L2.wipe_out z1⟩
  · rcases wipeG_get h with ⟨_, z⟩ | ⟨z1, z2⟩
    · cases z
    · exact ⟨⟨d, z2⟩, L2.wipe_out z1⟩
theorem restG_get {g0 : Gm} {vs : List Nat} {j : Nat} {s : Sl} (h : (restG g0 g vs)[j]? = some s) : (j ∈ vs ∧ g0[j]? = some s) ∨ ((j ∉ vs ∨ g0[j]? = none) ∧ g[j]? = some s) := by
  induction vs generalizing s with
  | nil => exact .inr ⟨.inl (by simp), h⟩
  | cons v vs ih =>
    simp only [restG] at h
    cases q : g0[v]? with
    | none =>
      simp only [q] at h
      rcases ih h with ⟨h1, h2⟩ | ⟨h1, h2⟩
      · exact .inl ⟨List.mem_cons_of_mem _ h1, h2⟩
      · by_cases e : j = v
        · subst e; exact .inr ⟨.inr q, h2⟩
        · exact .inr ⟨h1.imp (fun z w => z ((List.mem_cons.mp w).resolve_left e)) id, h2⟩
    | some t =>
      simp only [q] at h
      rcases set_get h with ⟨h1, h2⟩ | ⟨h1, h2⟩
      · subst h1; subst h2; exact .inl ⟨by simp, q⟩
      · rcases ih h2 with ⟨h3, h4⟩ | ⟨h3, h4⟩
        · exact .inl ⟨List.mem_cons_of_mem _ h3, h4⟩
        · exact .inr ⟨h3.imp (fun z w => z ((List.mem_cons.mp w).resolve_left h1)) id, h4⟩
theorem restG_len {g0 : Gm} {vs : List Nat} : (restG g0 g vs).length = g.length := by
  induction vs with
  | nil => rfl
  | cons v vs ih =>
    simp only [restG]
    cases g0[v]? with
    | none => exact ih
    | some t => simp only [List.length_set]; exact ih
theorem own_wiped {vs : List Nat} {x : Addr} (o : Own (wipeG g vs) (L2.wipe σ vs) H x) : Own g σ H x := by
  obtain ⟨i, d, a, c, e, f⟩ := o
  obtain ⟨h1, h2⟩ := wipeG_cell c
  rw [L2.wipe_out h1] at e
  exact ⟨i, d, a, h2, e, f⟩
theorem own_rest {vs : List Nat} {g2 : Gm} {x : Addr} (pl : plainAt g vs = true) (o : Own (restG g (wipeG g2 vs) vs) σ H x) : Own (wipeG g2 vs) (L2.wipe σ vs) H x := by
  obtain ⟨i, d, a, c, e, f⟩ := o
  cases q : (restG g (wipeG g2 vs) vs)[i]? with
  | none => rw [q] at c; cases c
  | some s =>
    rw [q] at c
    rcases restG_get q with ⟨h1, h2⟩ | ⟨h1, h2⟩
    · have z := List.all_eq_true.mp pl i h1
      simp only [h2] at z
      cases s with
      | ow _ => cases z
      | mb _ => cases z
      | _ => cases c
    · rcases wipeG_get h2 with ⟨_, z⟩ | ⟨z1, z2⟩
      · subst z; cases c
      · exact ⟨i, d, a, by rw [h2]; exact c, by rw [L2.wipe_out z1]; exact e, f⟩
theorem own_upd {p : Addr} {o : HO} (S : Sta K F g σ H) (no : ¬ Own g σ H p) {x : Addr} (ow : Own g σ (upd H p o) x) : Own g σ H x := by
  obtain ⟨i, d, a, c, ea, f⟩ := ow
  have na : a ≠ p := fun z => no ⟨i, d, a, c, ea, .inl z.symm⟩
  rcases f with f | ⟨C, dx0, fv, f, qf⟩
  · exact ⟨i, d, a, c, ea, .inl f⟩
  · rw [upd_ne na] at f; exact ⟨i, d, a, c, ea, .inr ⟨C, dx0, fv, f, qf⟩⟩
/-- behind the block: its own slots as they were -/
theorem Sta.rest {vs : List Nat} {g2 : Gm} {σ2 : L2.St} (pl : plainAt g vs = true) (S : Sta K F g σ H) (S2 : Sta K F' g2 σ2 H') (P : Stp F H (wipeG g vs) (L2.wipe σ vs) F' H' g2 σ2) (wp : L2.wipe σ2 vs = L2.wipe σ vs) :
    Sta K F' (restG g g2 vs) σ H' ∧ Stp F H g σ F' H' (restG g g2 vs) σ := by
  have lens : σ2.length = σ.length := by rw [← L2.wipe_length σ2 vs, wp, L2.wipe_length]
  have same : ∀ j, j ∉ vs → σ2[j]? = σ[j]? := fun j h => by rw [← L2.wipe_out (σ := σ2) h, wp, L2.wipe_out h]
  have plj : ∀ (j : Nat) (s : Sl), j ∈ vs → g[j]? = some s → s.plain = true := fun j s h e => by
    have q := List.all_eq_true.mp pl j h
    simpa only [e] using q
  have inR : ∀ (j : Nat) (s : Sl), (restG g g2 vs)[j]? = some s → (j ∈ vs ∧ g[j]? = some s ∧ s.plain = true) ∨ (j ∉ vs ∧ g2[j]? = some s) := fun j s h => by
    rcases restG_get h with ⟨h1, h2⟩ | ⟨h1, h2⟩
    · exact .inl ⟨h1, h2, plj j s h1 h2⟩
    · refine .inr ⟨?_, h2⟩
      rcases h1 with h1 | h1
      · exact h1
      · intro z
        have q := List.all_eq_true.mp pl j z
        simp only [h1] at q; cases q
  have cl : ∀ (j : Nat) (d : D), ((restG g g2 vs)[j]?).bind Sl.cell = some d → j ∉ vs ∧ (g2[j]?).bind Sl.cell = some d := fun j d c => by
    cases q : (restG g g2 vs)[j]? with
    | none => rw [q] at c; cases c
    | some s =>
      rw [q] at c
      rcases inR j s q with ⟨h1, h2, h3⟩ | ⟨h1, h2⟩
      · cases s with
        | ow _ => cases h3
        | mb _ => cases h3
        | _ => cases c
      · exact ⟨h1, by rw [h2]; exact c⟩
  have ow : ∀ x, Own (restG g g2 vs) σ H' x → Own g2 σ2 H' x := fun x ⟨i, d, a, c, e, f⟩ => by
    obtain ⟨h1, h2⟩ := cl i d c
    exact ⟨i, d, a, h2, by rw [same i h1]; exact e, f⟩
  refine ⟨⟨S2.sub, by rw [restG_len, S2.len, lens], fun j s e => ?_, fun i j d e a b x ij c1 c2 e1 e2 => ?_, fun i d a e1 e2 => ?_, S2.tb⟩, P.fg, P.st, fun x o h1 nb h2 h3 => P.fr x o h1 nb h2 fun o' => h3 ?_, fun x o => ?_, fun i d h => ?_, fun i d h => ?_, P.ki⟩
  · rcases inR j s e with ⟨h1, h2, h3⟩ | ⟨h1, h2⟩
    · have z := S.slot j s h2
      cases s with
      | un => trivial
      | im d => obtain ⟨v, w, r⟩ := z; exact ⟨v, w, r.mono P.fg⟩
      | _ => cases h3
    · rw [← same j h1]; exact S2.slot j s h2
  · obtain ⟨h1, h2⟩ := cl i d c1
    obtain ⟨h3, h4⟩ := cl j e c2
    exact S2.inj i j d e a b x ij h2 h4 (by rw [same i h1]; exact e1) (by rw [same j h3]; exact e2)
  · rcases inR i _ e1 with ⟨h1, h2, h3⟩ | ⟨h1, h2⟩
    · cases h3
    · exact (S2.ro i d a h2 (by rw [same i h1]; exact e2)).imp id fun r o => r (ow a o)
  · obtain ⟨i, d, a, c, e, f⟩ := o'
    obtain ⟨h4, h5⟩ := wipeG_cell c
    rw [L2.wipe_out h4] at e
    exact ⟨i, d, a, h5, e, f⟩
  · rcases P.own x (ow x o) with o | o
    · obtain ⟨i, d, a, c, e, f⟩ := o
      obtain ⟨h4, h5⟩ := wipeG_cell c
      rw [L2.wipe_out h4] at e
      exact .inl ⟨i, d, a, h5, e, f⟩
    · exact .inr o
  · rcases inR i _ h with ⟨h1, h2, h3⟩ | ⟨h1, h2⟩
    · cases h3
    · obtain ⟨h3, _⟩ := P.kro i d h2
      rcases wipeG_get h3 with ⟨z, _⟩ | ⟨_, z⟩
      · exact absurd z h1
      · exact ⟨z, rfl⟩
  · rcases inR i _ h with ⟨h1, h2, h3⟩ | ⟨h1, h2⟩
    · cases h3
    · obtain ⟨⟨e, h3⟩, _⟩ := P.kmb i d h2
      rcases wipeG_get h3 with ⟨z, _⟩ | ⟨_, z⟩
      · exact absurd z h1
      · exact ⟨⟨e, z⟩, rfl⟩
/-- the list that is being made, at an address that nobody knows -/
theorem Sta.updA {p : Addr} {o u : HO} {F0 H0 : Hp} {g0 : Gm} {σ0 : L2.St} (S0 : Sta K F0 g0 σ0 H0) (P : Stp F0 H0 g0 σ0 F H g σ) (S : Sta K F g σ H) (n0 : H0 p = none) (e : H p = some u) (nf : F p = none) (no : ¬ Own g σ H p) (du : Dt u := by exact ⟨fun _ z => (nomatch z), fun _ z => (nomatch z)⟩) :
    Sta K F g σ (upd H p o) ∧ Stp F0 H0 g0 σ0 F (upd H p o) g σ := by
  have cell : ∀ {a : Addr} {d : D}, (∃ (i : Nat), (g[i]?).bind Sl.cell = some d ∧ σ[i]? = some (some (V.ref a))) → Cell K F H a d → Cell K F (upd H p o) a d ∧ (∀ x, Foot (upd H p o) a x → Foot H a x) := fun {a d} ⟨i, c, ea⟩ k => by
    have np : ∀ x, Foot H a x → x ≠ p := fun x f z => no ⟨i, d, a, c, ea, by rw [← z]; exact f⟩
    have na : a ≠ p := np a (.inl rfl)
    refine ⟨k.same (Sub.refl _) fun x w f h => by rw [upd_ne (np x f)]; exact h, fun x f => ?_⟩
    rcases f with f | ⟨C, dx0, fv, f, qf⟩
    · exact .inl f
    · rw [upd_ne na] at f; exact .inr ⟨C, dx0, fv, f, qf⟩
  have ow : ∀ x, Own g σ (upd H p o) x → Own g σ H x := fun x ⟨i, d, a, c, ea, f⟩ => by
    obtain ⟨a', ea', k, _⟩ := S.cell c
    rw [ea] at ea'; cases ea'
    exact ⟨i, d, a, c, ea, (cell ⟨i, c, ea⟩ k).2 x f⟩
  have ne : ∀ {x}, H0 x ≠ none → x ≠ p := fun {x} h z => h (by rw [z]; exact n0)
  refine ⟨⟨fun a w h => ?_, S.len, fun i s h => ?_, fun i j d e' a b x ij c1 c2 e1 e2 f1 f2 => ?_, fun i d a e1 e2 => (S.ro i d a e1 e2).imp id fun r o => r (ow a o), S.tb.upd (fun w z => by rw [e] at z; cases z; exact du) fun _ _ z => z⟩, P.fg, fun x h => ?_, fun x w h1 nb h2 h3 => ?_, fun x o => P.own x (ow x o), P.kro, P.kmb, fun b C dx fv h => ?_⟩
  · rw [upd_ne fun z => by rw [z, nf] at h; cases h]; exact S.sub _ _ h
  · have z := S.slot i s h
    have cl : ∀ d, s.cell = some d → (∃ a, σ[i]? = some (some (V.ref a)) ∧ Cell K F H a d ∧ ∀ x, Foot H a x → F x = none) → ∃ a, σ[i]? = some (some (V.ref a)) ∧ Cell K F (upd H p o) a d ∧ ∀ x, Foot (upd H p o) a x → F x = none := fun d hd ⟨a, w1, k, n⟩ => by
      obtain ⟨k1, k2⟩ := cell ⟨i, by rw [h]; exact hd, w1⟩ k
      exact ⟨a, w1, k1, fun x f => n x (k2 x f)⟩
    cases s with
    | un => trivial
    | im d => exact z
    | ow d => exact cl d rfl z
    | mb d => exact cl d rfl z
    | ro d =>
      obtain ⟨v, w, r⟩ := z
      refine ⟨v, w, ?_⟩
      rcases r with r | ⟨a, rfl, c, n⟩
      · exact .inl r
      · by_cases ap : a = p
        · subst ap
          obtain ⟨h1, h2⟩ := P.kro i d h
          obtain ⟨v0, w0, r0⟩ := S0.slot i _ h1
          rw [← h2, w] at w0; cases w0
          rcases r0 with r0 | ⟨_, q, c0, _⟩
          · exact .inl (r0.mono P.fg)
          · cases q
            obtain ⟨u0, hu0⟩ := c0.at
            rw [n0] at hu0; cases hu0
        · refine .inr ⟨a, rfl, c.same (Sub.refl _) fun x q f hx => ?_, fun x f => ?_⟩
          · cases n x f; rw [upd_ne ap]; exact hx
          · rcases f with f | ⟨C, dx0, fv, f, qf⟩
            · exact f
            · rw [upd_ne ap] at f; exact n x (.inr ⟨C, dx0, fv, f, qf⟩)
  · obtain ⟨a', ea', k1, _⟩ := S.cell c1
    rw [e1] at ea'; cases ea'
    obtain ⟨b', eb', k2, _⟩ := S.cell c2
    rw [e2] at eb'; cases eb'
    exact S.inj i j d e' a b x ij c1 c2 e1 e2 ((cell ⟨i, c1, e1⟩ k1).2 x f1) ((cell ⟨j, c2, e2⟩ k2).2 x f2)
  · rw [upd_ne (ne h)]; exact P.st x h
  · rw [upd_ne (ne (by rw [h1]; exact fun z => nomatch z))]; exact P.fr x w h1 nb h2 h3
  · obtain ⟨fv', z, kq⟩ := P.ki b C dx fv h
    exact ⟨fv', by rw [upd_ne (ne (by rw [h]; exact fun z => nomatch z))]; exact z, kq⟩
end
section
variable {X : Cx} {W : WX} {pos : Pos} {σ : L2.St} {F H F0 H0 : Hp} {g g0 : Gm}
/-- a clause's tests -/
def STs (X : Cx) (ifs : List Expr) (c : M Bool) : Prop := PTs X ifs (tG X.K W0 relB c)
theorem PTs_imp {X : Cx} {e : List Expr} {t t' : TT} (h : PTs X e t) (k : ∀ σ H Q, t' σ H Q → t σ H Q) : PTs X e t' := ⟨fun pins s σ H Q I q => h.run pins s σ H Q I (k σ H Q q)⟩
theorem st_nil : STs X [] (M.ret true) := PTs_imp pts_nil fun σ H Q q => by
  obtain ⟨F, g, S, q⟩ := q
  exact q true F H S Stp.refl rfl
def mLcR (l : Option Nat) (vs : List Nat) (T : Tgt) (c : M Bool) (e : M D) (ds : List D) : M D := fun g =>
  if plainAt (lendOut l g) vs = true then (match lcL T c e vs ds (lendOut l g) with
    | some (ys, g2) => if ds.length ≤ 1000000 then (match lendIn l g (restG (lendOut l g) (wipeG g2 vs) vs) with
      | some g3 => some (.ok (.lst ys) g3)
      | none => none) else none
    | none => none) else none
theorem lc_rest {l : Option Nat} {vs : List Nat} {T : Tgt} {c : M Bool} {e : M D} {Q : VK} {ds : List D} {J : It} {F1 H1 : Hp} {g1 : Gm} (S1 : Sta X.K F1 g1 σ H1) (P1 : Stp F H g σ F1 H1 g1 σ) (r1 : relI X.K l σ H F1 H1 g1 ds J)
    (q1 : Pst X.K W σ (relN X.K) F H g Q (mLcR l vs T c e ds g1)) : tLc (fun _ _ R => R J H1) (tTg X.K vs T) (tG X.K W0 relB c) (tG X.K W0 (relE X.K) e) vs σ H Q := by
  unfold mLcR at q1
  obtain ⟨L, itm, l0, lk, fl⟩ := r1
  intro A hA
  have Sl := lend_sta S1 fl
  by_cases pl : plainAt (lendOut l g1) vs = true
  · rw [if_pos pl] at q1
    cases o : lcL T c e vs ds (lendOut l g1) with
    | none => simp only [o] at q1; exact q1.elim
    | some r =>
      obtain ⟨ys, g2⟩ := r
      simp only [o] at q1
      by_cases len : ds.length ≤ 1000000
      · rw [if_pos len] at q1
        cases li : lendIn l g1 (restG (lendOut l g1) (wipeG g2 vs) vs) with
        | none => simp only [li] at q1; exact q1.elim
        | some g3 =>
          simp only [li] at q1
          have SW := Sl.wipe (vs := vs)
          have PW : Stp F1 H1 (lendOut l g1) σ F1 H1 (wipeG (lendOut l g1) vs) (L2.wipe σ vs) := Stp.wipe
          have nfA : F1 A = none := sub_none S1.sub hA
          refine ⟨fun i m H' => ∃ F' g' acc ac zs, Sta X.K F' (wipeG g' vs) (L2.wipe σ vs) H' ∧ Stp F1 H1 (wipeG (lendOut l g1) vs) (L2.wipe σ vs) F' H' (wipeG g' vs) (L2.wipe σ vs) ∧ m = ds.length - i ∧ i ≤ ds.length ∧
            H' A = some (.lst acc) ∧ F' A = none ∧ ¬ Own (wipeG g' vs) (L2.wipe σ vs) H' A ∧ acc.length ≤ i ∧ Reps X.K F' acc ac ∧ lcL T c e vs (ds.drop i) g' = some (zs, g2) ∧ ac ++ zs = ys, ⟨ds.length, ?_⟩, ?_⟩
          · have Aa := Al.mkN (o := HO.lst []) SW.sub hA
            obtain ⟨S0, P0⟩ := SW.al Aa
            refine ⟨F1, lendOut l g1, [], [], ys, S0, P0, rfl, Nat.zero_le _, upd_same, nfA, fun ow => ?_, Nat.le_refl _, .nil, o, rfl⟩
            obtain ⟨u, hu⟩ := SW.own_at (SW.own_al Aa.hg ow)
            rw [hA] at hu; cases hu
          · rintro i m H3 ⟨F3, g', acc, ac, zs, S3, P3, rfl, hi, eA, fA, oA, la, ra, ho, hy⟩
            have L3 := lk _ _ _ _ (PW.trans P3)
            have sub := P3.fg.trans S3.sub
            by_cases lt : i < ds.length
            · refine .inr ⟨itm.go i H3 sub L3 lt, fun H' => ∃ F' g' acc ac zs, Sta X.K F' (wipeG g' vs) (L2.wipe σ vs) H' ∧ Stp F1 H1 (wipeG (lendOut l g1) vs) (L2.wipe σ vs) F' H' (wipeG g' vs) (L2.wipe σ vs) ∧
                H' A = some (.lst acc) ∧ F' A = none ∧ ¬ Own (wipeG g' vs) (L2.wipe σ vs) H' A ∧ acc.length ≤ i + 1 ∧ Reps X.K F' acc ac ∧ lcL T c e vs (ds.drop (i + 1)) g' = some (zs, g2) ∧ ac ++ zs = ys,
                fun H' ⟨F', g', acc, ac, zs, z1, z2, z3, z4, z5, z6, z7, z8, z9⟩ => ⟨ds.length - (i + 1), by omega, F', g', acc, ac, zs, z1, z2, rfl, lt, z3, z4, z5, z6, z7, z8, z9⟩, fun x H' y => ?_⟩
              obtain ⟨F4, Ay, r4⟩ := itm.yld i H3 x H' F3 ds[i] P3.fg S3.sub L3 y (List.getElem?_eq_getElem lt)
              obtain ⟨S4, P4⟩ := S3.al Ay
              rw [List.drop_eq_getElem_cons lt] at ho
              simp only [lcL] at ho
              cases hT : T ds[i] (wipeG g' vs) with
              | none => simp only [hT] at ho; cases ho
              | some gT =>
                simp only [hT] at ho
                refine ⟨F4, wipeG g' vs, ds[i], gT, S4, r4, hT, fun σT ST PT AT => ?_⟩
                have wT : L2.wipe σT vs = L2.wipe σ vs := by
                  apply List.ext_getElem?
                  intro j
                  have wl : ∀ (τ : L2.St), τ.length = σ.length → j ∈ vs → (L2.wipe τ vs)[j]? = if j < σ.length then some none else none := fun τ lt hj => by
                    by_cases jl : j < σ.length
                    · rw [if_pos jl]
                      cases q : (L2.wipe τ vs)[j]? with
                      | none => rw [List.getElem?_eq_none_iff, L2.wipe_length, lt] at q; omega
                      | some w => cases w with
                        | none => rfl
                        | some v => exact absurd hj (L2.wipe_some q).2
                    · rw [if_neg jl]; exact List.getElem?_eq_none (by rw [L2.wipe_length, lt]; omega)
                  have lT : σT.length = σ.length := by rw [AT.1, L2.wipe_length]
                  by_cases hj : j ∈ vs
                  · rw [wl σT lT hj, wl σ rfl hj]
                  · rw [L2.wipe_out hj, AT.2 j hj]
                refine ⟨wT, F4, gT, ST, ?_⟩
                have P5 := P3.trans (P4.trans PT)
                -- what is known of the new list stays
                have keepA : ∀ {F6 H6 : Hp} {g6 : Gm}, Stp F4 H' gT σT F6 H6 g6 σT → H6 A = some (.lst acc) ∧ F6 A = none ∧ ¬ Own g6 σT H6 A := fun {F6 H6 g6} P6 => by
                  have PP := P4.trans (PT.trans P6)
                  obtain ⟨k1, k2⟩ := PP.fr' eA (fun _ z => nomatch z) (fun _ z => nomatch z) fA oA
                  refine ⟨k1, k2, fun ow => ?_⟩
                  rcases PP.own A ow with ow | ow
                  · exact oA ow
                  · rw [eA] at ow; cases ow
                cases hc : c gT with
                | none => simp only [hc] at ho; cases ho
                | some rc => cases rc with
                  | ex _ _ => simp only [hc] at ho; cases ho
                  | ok b gc =>
                    intro b' F6 H6 S6 P6 eb
                    cases (show b = b' from eb)
                    obtain ⟨k1, k2, k3⟩ := keepA P6
                    have P7 := P5.trans P6
                    cases b with
                    | false =>
                      simp only [hc] at ho
                      rw [if_neg (by decide)]
                      have SW6 := S6.wipe (vs := vs)
                      have PW6 : Stp F6 H6 gc σT F6 H6 (wipeG gc vs) (L2.wipe σT vs) := Stp.wipe
                      rw [wT] at SW6 PW6
                      refine ⟨F6, gc, acc, ac, zs, SW6, P7.trans PW6, k1, k2, fun ow => ?_, by omega, ra.mono ((P4.trans (PT.trans P6)).fg), ho, hy⟩
                      rcases PW6.own A ow with z | z
                      · exact k3 z
                      · rw [k1] at z; cases z
                    | true =>
                      simp only [hc] at ho
                      rw [if_pos rfl]
                      refine ⟨F6, gc, S6, ?_⟩
                      cases he : e gc with
                      | none => simp only [he] at ho; cases ho
                      | some re => cases re with
                        | ex _ _ => simp only [he] at ho; cases ho
                        | ok yd ge =>
                          simp only [he] at ho
                          cases hr : lcL T c e vs (ds.drop (i + 1)) ge with
                          | none => simp only [hr] at ho; cases ho
                          | some rr =>
                            obtain ⟨ws, gw⟩ := rr
                            simp only [hr] at ho
                            cases ho
                            intro yv F8 H8 S8 P8 r8
                            obtain ⟨m1, m2, m3⟩ := keepA (P6.trans P8)
                            have P9 := P7.trans P8
                            obtain ⟨SA, PA⟩ := Sta.updA (o := HO.lst (acc ++ [yv])) SW P9 S8 hA m1 m2 m3
                            refine ⟨acc, m1, Nat.lt_of_le_of_lt (Nat.le_trans la hi) (Nat.lt_of_le_of_lt len (by decide)), ?_⟩
                            have SW8 := SA.wipe (vs := vs)
                            have PW8 : Stp F8 (upd H8 A (.lst (acc ++ [yv]))) ge σT F8 (upd H8 A (.lst (acc ++ [yv]))) (wipeG ge vs) (L2.wipe σT vs) := Stp.wipe
                            rw [wT] at SW8 PW8
                            refine ⟨F8, ge, acc ++ [yv], ac ++ [yd], ws, SW8, PA.trans PW8, upd_same, m2, fun ow => ?_, by simp; omega, (ra.mono ((P4.trans (PT.trans (P6.trans P8))).fg)).append (.cons r8 .nil), hr, by simpa using hy⟩
                            rw [← wT] at ow
                            exact m3 (own_upd S8 m3 (own_wiped ow))
            · have ei : i = ds.length := by omega
              subst ei
              rw [List.drop_length] at ho
              simp only [lcL] at ho
              cases ho
              have wi : L2.wipe (L2.wipe σ vs) vs = L2.wipe σ vs := by
                apply List.ext_getElem?
                intro j
                by_cases hj : j ∈ vs
                · cases q : (L2.wipe (L2.wipe σ vs) vs)[j]? with
                  | none => rw [List.getElem?_eq_none_iff, L2.wipe_length] at q; exact (List.getElem?_eq_none_iff.mpr q).symm
                  | some w => cases w with
                    | some v => exact absurd hj (L2.wipe_some q).2
                    | none => cases q2 : (L2.wipe σ vs)[j]? with
                      | none =>
                        have := (List.getElem?_eq_some_iff.mp q).1
                        rw [L2.wipe_length] at this
                        rw [List.getElem?_eq_none_iff] at q2; omega
                      | some w2 => cases w2 with
                        | none => rfl
                        | some v => exact absurd hj (L2.wipe_some q2).2
                · rw [L2.wipe_out hj]
              obtain ⟨SR, PR⟩ := Sta.rest pl Sl S3 P3 wi
              obtain ⟨SB', PB', OB⟩ := lend_back S1 fl SR PR li
              refine .inl ⟨itm.stop _ H3 sub L3 (Nat.le_refl _), q1 _ F3 H3 SB' (P1.trans PB') ⟨A, rfl, ⟨acc, eA, by rw [List.append_nil] at hy; rw [← hy]; exact ra⟩, fun x f => ?_⟩⟩
              have ex : x = A := by
                rcases f with f | ⟨C, dx0, fv, f, qf⟩
                · exact f
                · rw [eA] at f; cases f
              subst ex
              refine ⟨fA, fun ow => ?_, Classical.byContradiction fun h0 => P1.st x h0 hA⟩
              rcases OB x ow with z | z
              · exact oA (own_rest pl z)
              · obtain ⟨u, hu⟩ := S1.own_at z
                rw [hA] at hu; cases hu
      · rw [if_neg len] at q1; exact q1.elim
  · rw [if_neg pl] at q1; exact q1.elim
theorem lc_reads {l : Option Nat} {it : M (List D)} {vs : List Nat} {T : Tgt} {c : M Bool} {e : M D} {Q : VK} (h : tG X.K W (relN X.K) (mLc l it vs T c e) σ H Q) :
    tLc (tG X.K W (relI X.K l) it) (tTg X.K vs T) (tG X.K W0 relB c) (tG X.K W0 (relE X.K) e) vs σ H Q := by
  obtain ⟨F, g, S, h⟩ := h
  exact ⟨F, g, S, Pst_bind Stp.refl h fun ds J F1 H1 g1 S1 P1 P01 r1 q1 => lc_rest S1 P1 r1 q1⟩
end
end Cq

set_option Elab.async false
set_option linter.all false
set_option maxRecDepth 100000
namespace Cq
open PySem PySem.Spec PyProof.Rows L2
mutual
def D.py : D → Option PyData
  | .non => some .none
  | .bl b => some (.bool b)
  | .int i => some (.int i)
  | .str x => some (.str x)
  | .tup xs => (pyL xs).map .tuple
  | .lst xs => (pyL xs).map .list
  | _ => none
def pyL : List D → Option (List PyData)
  | [] => some []
  | d :: ds => match d.py, pyL ds with
    | some p, some ps => some (p :: ps)
    | _, _ => none
end
mutual
theorem Rep.dp {K : Frag} {F H : Hp} (s : Sub F H) : ∀ {v : V} {d : D} {p : PyData}, Rep K F v d → d.py = some p → Dp K H v p
  | _, _, _, .non, e => by simp only [D.py] at e; cases e; exact .non
  | _, _, _, .bl b, e => by simp only [D.py] at e; cases e; exact .bl b
  | _, _, _, .int i, e => by simp only [D.py] at e; cases e; exact .int i
  | _, _, _, .str x, e => by simp only [D.py] at e; cases e; exact .str x
  | _, .tup xs, _, .tup h r, e => by
    simp only [D.py] at e
    cases q : pyL xs with
    | none => rw [q] at e; cases e
    | some ps => rw [q] at e; cases e; exact .tup (s.tup h) (Reps.dp s r q)
  | _, .lst xs, _, .lst h r, e => by
    simp only [D.py] at e
    cases q : pyL xs with
    | none => rw [q] at e; cases e
    | some ps => rw [q] at e; cases e; exact .lst (.inl (.inl (s _ _ h))) (Reps.dp s r q)
  | _, _, _, .dik _ _ _, e => by simp [D.py] at e
  | _, _, _, .dit _ _ _, e => by simp [D.py] at e
  | _, _, _, .ins _ _ _ _, e => by simp [D.py] at e
  | _, _, _, .scr _, e => by simp [D.py] at e
  | _, _, _, .glo _, e => by simp [D.py] at e
  | _, _, _, .ktp _, e => by simp [D.py] at e
  | _, _, _, .lam _, e => by simp [D.py] at e
  | _, _, _, .ixt _ _ _, e => by simp [D.py] at e
theorem Reps.dp {K : Frag} {F H : Hp} (s : Sub F H) : ∀ {vs : List V} {ds : List D} {ps : List PyData}, Reps K F vs ds → pyL ds = some ps → DpAll K H vs ps
  | _, _, _, .nil, e => by simp only [pyL] at e; cases e; exact .nil
  | _, d :: ds, _, .cons r t, e => by
    simp only [pyL] at e
    cases q : d.py with
    | none => rw [q] at e; cases e
    | some p => cases q2 : pyL ds with
      | none => rw [q, q2] at e; cases e
      | some ps => rw [q, q2] at e; cases e; exact .cons (Rep.dp s r q) (Reps.dp s t q2)
end
theorem RoV.dp {K : Frag} {F H : Hp} (s : Sub F H) {v : V} {d : D} {p : PyData} (r : RoV K F H v d) (e : d.py = some p) : Dp K H v p := by
  rcases r with r | ⟨a, rfl, c, _⟩
  · exact r.dp s e
  · cases d with
    | lst xs =>
      obtain ⟨vs, h, r⟩ := c
      simp only [D.py] at e
      cases q : pyL xs with
      | none => rw [q] at e; cases e
      | some ps => rw [q] at e; cases e; exact .lst (.inl (.inl h)) (Reps.dp s r q)
    | dik _ => simp [D.py] at e
    | dit _ => simp [D.py] at e
    | ins _ _ => simp [D.py] at e
    | _ => exact c.elim
theorem Reps.ints {K : Frag} {F : Hp} : ∀ {vs : List V} {ns : List Int}, Reps K F vs (ns.map D.int) → vs = ns.map V.int
  | _, [], .nil => rfl
  | _, n :: ns, .cons r t => by cases r; rw [Reps.ints t]; rfl
theorem Reps.strs {K : Frag} {F : Hp} : ∀ {vs : List V} {ns : List Str}, Reps K F vs (ns.map D.str) → vs = ns.map V.str
  | _, [], .nil => rfl
  | _, n :: ns, .cons r t => by cases r; rw [Reps.strs t]; rfl
theorem Reps.bools {K : Frag} {F : Hp} : ∀ {vs : List V} {ns : List Bool}, Reps K F vs (ns.map D.bl) → vs = ns.map V.bl
  | _, [], .nil => rfl
  | _, n :: ns, .cons r t => by cases r; rw [Reps.bools t]; rfl
theorem Reps.ofStrs {K : Frag} {F : Hp} : ∀ (ns : List Str), Reps K F (ns.map V.str) (ns.map D.str)
  | [] => .nil
  | n :: ns => .cons (.str n) (Reps.ofStrs ns)
def intsOf : List D → Option (List Int)
  | [] => some []
  | .int i :: ds => (intsOf ds).map (i :: ·)
  | _ :: _ => none
def strsOf : List D → Option (List Str)
  | [] => some []
  | .str i :: ds => (strsOf ds).map (i :: ·)
  | _ :: _ => none
def blsOf : List D → Option (List Bool)
  | [] => some []
  | .bl i :: ds => (blsOf ds).map (i :: ·)
  | _ :: _ => none
theorem intsOf_ok : ∀ {ds : List D} {ns : List Int}, intsOf ds = some ns → ds = ns.map D.int
  | [], _, e => by simp only [intsOf] at e; cases e; rfl
  | d :: ds, ns, e => by
    cases d with
    | int i =>
      simp only [intsOf] at e
      cases q : intsOf ds with
      | none => rw [q] at e; cases e
      | some ms => rw [q] at e; cases e; rw [intsOf_ok q]; rfl
    | _ => simp [intsOf] at e
theorem strsOf_ok : ∀ {ds : List D} {ns : List Str}, strsOf ds = some ns → ds = ns.map D.str
  | [], _, e => by simp only [strsOf] at e; cases e; rfl
  | d :: ds, ns, e => by
    cases d with
    | str i =>
      simp only [strsOf] at e
      cases q : strsOf ds with
      | none => rw [q] at e; cases e
      | some ms => rw [q] at e; cases e; rw [strsOf_ok q]; rfl
    | _ => simp [strsOf] at e
theorem blsOf_ok : ∀ {ds : List D} {ns : List Bool}, blsOf ds = some ns → ds = ns.map D.bl
  | [], _, e => by simp only [blsOf] at e; cases e; rfl
  | d :: ds, ns, e => by
    cases d with
    | bl i =>
      simp only [blsOf] at e
      cases q : blsOf ds with
      | none => rw [q] at e; cases e
      | some ms => rw [q] at e; cases e; rw [blsOf_ok q]; rfl
    | _ => simp [blsOf] at e
theorem intsOf_map (ns : List Int) : intsOf (ns.map D.int) = some ns := by
  induction ns with
  | nil => rfl
  | cons n ns ih => simp only [List.map_cons, intsOf, ih]; rfl
def dAdd : D → D → Option D
  | .int i, .int j => some (.int (i + j))
  | .str x, .str y => if x.length + y.length ≤ 1000000 then some (.str (x ++ y)) else none
  | .tup xs, .tup ys => if xs.length + ys.length ≤ 1000000 then some (.tup (xs ++ ys)) else none
  | .lst xs, .lst ys => if xs.length + ys.length ≤ 1000000 then some (.lst (xs ++ ys)) else none
  | _, _ => none
def dSub : D → D → Option D
  | .int i, .int j => some (.int (i - j))
  | _, _ => none
def dMul : D → D → Option D
  | .int i, .int j => if i.natAbs < 2 ^ 64 ∨ j.natAbs < 2 ^ 64 then some (.int (i * j)) else none
  | .lst xs, .int k => if 0 ≤ k ∧ k ≤ 1000 ∧ xs.length ≤ 1000 then some (.lst (List.replicate k.toNat xs).flatten) else none
  | _, _ => none
def dMod : D → D → Option D
  | .int i, .int j => if 0 < j then some (.int (i % j)) else none
  | _, _ => none
def dDiv : D → D → Option D
  | .int i, .int j => if 0 < j ∧ j < 1073741824 then some (.int (i / j)) else none
  | _, _ => none
def dPow : D → D → Option D
  | .int i, .int j => if 0 ≤ j ∧ j ≤ 1000 ∧ i.natAbs < 2 ^ 64 then some (.int (i ^ j.toNat)) else none
  | _, _ => none
def dNeg : D → Option D
  | .int i => some (.int (-i))
  | _ => none
def dI (f : Int → Int → Bool) : D → D → Option D
  | .int i, .int j => some (.bl (f i j))
  | _, _ => none
def dEqP (d e : D) : Option D := match d.py, e.py with
  | some p, some q => if SeqAt.shaped p = true ∧ SeqAt.shaped q = true then some (.bl (PyData.eqv p q)) else none
  | _, _ => none
def dEq : D → D → Option D
  | .str x, .str y => some (.bl (decide (x = y)))
  | d, e => dEqP d e
def dNeP (d e : D) : Option D := match d.py, e.py with
  | some p, some q => if SeqAt.shaped p = true ∧ SeqAt.shaped q = true then some (.bl (!PyData.eqv p q)) else none
  | _, _ => none
def dNe : D → D → Option D
  | .str x, .str y => some (.bl (!decide (x = y)))
  | d, e => dNeP d e
def dIsN : D → D → Option D
  | .non, .non => some (.bl true)
  | _, .non => some (.bl false)
  | _, _ => none
section
variable {X : Cx} {W : WX} {pos : Pos} {σ : L2.St} {F H F0 H0 : Hp} {g g0 : Gm}
theorem opD {f : Value → Value → Sem Value} {r r' : R2} (ho : OpR X f r) (k : ∀ x y H Q, r' x y H Q → r x y H Q) : OpR X f r' := fun pins s σ H x y v u Q I rx ry h => ho pins s σ H x y v u Q I rx ry (k x y H Q h)
theorem al_tup {vs : List V} {ds : List D} {p : Addr} (s : Sub F H) (n : H p = none) (r : Reps X.K F vs ds) : Al F H (upd F p (.tup vs)) (upd H p (.tup vs)) ∧ Rep X.K (upd F p (.tup vs)) (.ref p) (.tup ds) := by
  have A := Al.mk1 (o := HO.tup vs) s n
  exact ⟨A, .tup (.inl (.inl upd_same)) (r.mono A.fg)⟩
theorem al_lst {vs : List V} {ds : List D} {p : Addr} (s : Sub F H) (n : H p = none) (r : Reps X.K F vs ds) : Al F H (upd F p (.lst vs)) (upd H p (.lst vs)) ∧ Rep X.K (upd F p (.lst vs)) (.ref p) (.lst ds) := by
  have A := Al.mk1 (o := HO.lst vs) s n
  exact ⟨A, .lst upd_same (r.mono A.fg)⟩
theorem ow_add : OpR X (binaryOp .Add) (rD2 X.K dAdd) := by
  refine opD (OpR.or op_add (OpR.or op_add_str (OpR.or op_catA op_cat))) fun x y H Q ⟨F, d, e, z, s, r1, r2, h, q⟩ => ?_
  have A := Al.refl s
  cases d <;> cases e <;> simp only [dAdd] at h <;> first | cases h | skip
  · cases r1.int; cases r2.int; exact .inl ⟨_, _, rfl, rfl, q _ F H A (.int _)⟩
  · rename_i a b
    by_cases l : a.length + b.length ≤ 1000000
    · rw [if_pos l] at h; cases h
      cases r1.str; cases r2.str
      exact .inr (.inl ⟨_, _, rfl, rfl, line_le l, q _ F H A (.str _)⟩)
    · rw [if_neg l] at h; cases h
  · rename_i a b
    by_cases l : a.length + b.length ≤ 1000000
    · rw [if_pos l] at h; cases h
      obtain ⟨p, vs, rfl, k1, k2, k3⟩ := r1.tup s
      obtain ⟨p', vs', rfl, k1', k2', k3'⟩ := r2.tup s
      refine .inr (.inr (.inl ⟨p, p', vs, vs', rfl, rfl, k1, k1', by rw [k2.length, k2'.length]; exact line_le l, fun e => ?_, fun _ e => ?_, fun _ _ t nt => ?_⟩))
      · subst e; cases k2; exact q _ F H A k3'
      · subst e; cases k2'; rw [List.append_nil] at q; exact q _ F H A k3
      · obtain ⟨A', r'⟩ := al_tup (X := X) s nt (k2.append k2')
        exact q _ _ _ A' r'
    · rw [if_neg l] at h; cases h
  · rename_i a b
    by_cases l : a.length + b.length ≤ 1000000
    · rw [if_pos l] at h; cases h
      obtain ⟨p, vs, rfl, k1, k2⟩ := r1.lst s
      obtain ⟨p', vs', rfl, k1', k2'⟩ := r2.lst s
      refine .inr (.inr (.inr ⟨p, p', vs, vs', rfl, rfl, k1, k1', by rw [k2.length, k2'.length]; exact line_le l, fun t nt => ?_⟩))
      obtain ⟨A', r'⟩ := al_lst (X := X) s nt (k2.append k2')
      exact q _ _ _ A' r'
    · rw [if_neg l] at h; cases h
theorem ow_sub : OpR X (binaryOp .Sub) (rD2 X.K dSub) := by
  refine opD op_sub fun x y H Q ⟨F, d, e, z, s, r1, r2, h, q⟩ => ?_
  cases d <;> cases e <;> simp only [dSub] at h <;> first | cases h | skip
  cases r1.int; cases r2.int; exact ⟨_, _, rfl, rfl, q _ F H (Al.refl s) (.int _)⟩
theorem abs64 {i : Int} (h : i.natAbs < 2 ^ 64) : -(2 ^ 64) < i ∧ i < 2 ^ 64 := by omega
theorem ow_mul : OpR X (binaryOp .Mult) (rD2 X.K dMul) := by
  refine opD (OpR.or op_mul op_rep) fun x y H Q ⟨F, d, e, z, s, r1, r2, h, q⟩ => ?_
  cases d <;> cases e <;> simp only [dMul] at h <;> first | cases h | skip
  · rename_i i j
    by_cases c : i.natAbs < 2 ^ 64 ∨ j.natAbs < 2 ^ 64
    · rw [if_pos c] at h; cases h
      cases r1.int; cases r2.int
      exact .inl ⟨_, _, rfl, rfl, c.imp abs64 abs64, q _ F H (Al.refl s) (.int _)⟩
    · rw [if_neg c] at h; cases h
  · rename_i xs k
    by_cases c : 0 ≤ k ∧ k ≤ 1000 ∧ xs.length ≤ 1000
    · rw [if_pos c] at h; cases h
      cases r2.int
      obtain ⟨p, vs, rfl, k1, k2⟩ := r1.lst s
      refine .inr ⟨p, k, vs, rfl, rfl, k1, by omega, by omega, ?_, fun t nt => ?_⟩
      · have : vs.length * k.toNat ≤ 1000 * 1000 := Nat.mul_le_mul (by rw [k2.length]; exact c.2.2) (by omega)
        exact line_le this
      · have rr : ∀ n : Nat, Reps X.K F (List.replicate n vs).flatten (List.replicate n xs).flatten := fun n => by
          induction n with
          | zero => exact .nil
          | succ n ih => simp only [List.replicate_succ, List.flatten_cons]; exact k2.append ih
        obtain ⟨A', r'⟩ := al_lst (X := X) s nt (rr k.toNat)
        exact q _ _ _ A' r'
    · rw [if_neg c] at h; cases h
theorem ow_mod : OpR X (binaryOp .Mod) (rD2 X.K dMod) := by
  refine opD op_mod fun x y H Q ⟨F, d, e, z, s, r1, r2, h, q⟩ => ?_
  cases d <;> cases e <;> simp only [dMod] at h <;> first | cases h | skip
  rename_i i j
  by_cases c : 0 < j
  · rw [if_pos c] at h; cases h
    cases r1.int; cases r2.int; exact ⟨_, _, rfl, rfl, c, q _ F H (Al.refl s) (.int _)⟩
  · rw [if_neg c] at h; cases h
theorem ow_div : OpR X (binaryOp .FloorDiv) (rD2 X.K dDiv) := by
  refine opD op_fdiv fun x y H Q ⟨F, d, e, z, s, r1, r2, h, q⟩ => ?_
  cases d <;> cases e <;> simp only [dDiv] at h <;> first | cases h | skip
  rename_i i j
  by_cases c : 0 < j ∧ j < 1073741824
  · rw [if_pos c] at h; cases h
    cases r1.int; cases r2.int; exact ⟨_, _, rfl, rfl, c, q _ F H (Al.refl s) (.int _)⟩
  · rw [if_neg c] at h; cases h
theorem ow_pow : OpR X (binaryOp .Pow) (rD2 X.K dPow) := by
  refine opD op_pow fun x y H Q ⟨F, d, e, z, s, r1, r2, h, q⟩ => ?_
  cases d <;> cases e <;> simp only [dPow] at h <;> first | cases h | skip
  rename_i i j
  by_cases c : 0 ≤ j ∧ j ≤ 1000 ∧ i.natAbs < 2 ^ 64
  · rw [if_pos c] at h; cases h
    cases r1.int; cases r2.int; exact ⟨_, _, rfl, rfl, ⟨c.1, by omega, c.2.2⟩, q _ F H (Al.refl s) (.int _)⟩
  · rw [if_neg c] at h; cases h
theorem ow_neg : UnR X (unaryOp .USub) (rD1 X.K dNeg) := by
  intro pins s σ H x v Q I rx h
  obtain ⟨F, d, z, sb, r, h, q⟩ := h
  refine un_neg pins s σ H x v Q I rx ?_
  cases d <;> simp only [dNeg] at h <;> first | cases h | skip
  cases r.int; exact ⟨_, rfl, q _ F H (Al.refl sb) (.int _)⟩
theorem owI {op : CmpOp} {f : Int → Int → Bool} (ho : OpR X (compareOp op) (rI0 fun i j => .bl (f i j))) : OpR X (compareOp op) (rD2 X.K (dI f)) := by
  refine opD ho fun x y H Q ⟨F, d, e, z, s, r1, r2, h, q⟩ => ?_
  cases d <;> cases e <;> simp only [dI] at h <;> first | cases h | skip
  cases r1.int; cases r2.int; exact ⟨_, _, rfl, rfl, q _ F H (Al.refl s) (.bl _)⟩
theorem ow_eqP (hu : X.A.units + 64 < cLine) : OpR X (compareOp .Eq) (rD2 X.K dEqP) := by
  refine opD (op_eqD hu) fun x y H Q ⟨F, d, e, z, s, r1, r2, h, q⟩ => ?_
  unfold dEqP at h
  cases p1 : d.py with
  | none => rw [p1] at h; cases h
  | some p => cases p2 : e.py with
    | none => rw [p1, p2] at h; cases h
    | some p' =>
      rw [p1, p2] at h
      have h : (if SeqAt.shaped p = true ∧ SeqAt.shaped p' = true then some (D.bl (PyData.eqv p p')) else none) = some z := h
      by_cases c : SeqAt.shaped p = true ∧ SeqAt.shaped p' = true
      · rw [if_pos c] at h; cases h
        exact ⟨p, p', r1.dp s p1, r2.dp s p2, c.1, c.2, q _ F H (Al.refl s) (.bl _)⟩
      · rw [if_neg c] at h; cases h
theorem ow_neP (hu : X.A.units + 64 < cLine) : OpR X (compareOp .NotEq) (rD2 X.K dNeP) := by
  refine opD (op_neD hu) fun x y H Q ⟨F, d, e, z, s, r1, r2, h, q⟩ => ?_
  unfold dNeP at h
  cases p1 : d.py with
  | none => rw [p1] at h; cases h
  | some p => cases p2 : e.py with
    | none => rw [p1, p2] at h; cases h
    | some p' =>
      rw [p1, p2] at h
      have h : (if SeqAt.shaped p = true ∧ SeqAt.shaped p' = true then some (D.bl (!PyData.eqv p p')) else none) = some z := h
      by_cases c : SeqAt.shaped p = true ∧ SeqAt.shaped p' = true
      · rw [if_pos c] at h; cases h
        exact ⟨p, p', r1.dp s p1, r2.dp s p2, c.1, c.2, q _ F H (Al.refl s) (.bl _)⟩
      · rw [if_neg c] at h; cases h
theorem dEq_cases {d e z : D} (h : dEq d e = some z) : (∃ x y, d = .str x ∧ e = .str y ∧ z = .bl (decide (x = y))) ∨ dEqP d e = some z := by
  unfold dEq at h
  split at h
  · cases h; exact .inl ⟨_, _, rfl, rfl, rfl⟩
  · exact .inr h
theorem dNe_cases {d e z : D} (h : dNe d e = some z) : (∃ x y, d = .str x ∧ e = .str y ∧ z = .bl (!decide (x = y))) ∨ dNeP d e = some z := by
  unfold dNe at h
  split at h
  · cases h; exact .inl ⟨_, _, rfl, rfl, rfl⟩
  · exact .inr h
theorem dec_strV {a b : Str} : decide (V.str a = V.str b) = decide (a = b) := by
  by_cases h : a = b
  · subst h; simp
  · simp [h]
theorem ow_eq (hu : X.A.units + 64 < cLine) : OpR X (compareOp .Eq) (rD2 X.K dEq) := fun pins s σ H x y v u Q I rx ry ⟨F, d, e, z, sb, r1, r2, h, q⟩ => by
  rcases dEq_cases h with ⟨a, b, rfl, rfl, rfl⟩ | h
  · cases r1.str; cases r2.str
    exact op_eq pins s σ H _ _ v u Q I rx ry ⟨rfl, by rw [dec_strV]; exact q _ F H (Al.refl sb) (.bl _)⟩
  · exact ow_eqP hu pins s σ H x y v u Q I rx ry ⟨F, d, e, z, sb, r1, r2, h, q⟩
theorem ow_ne (hu : X.A.units + 64 < cLine) : OpR X (compareOp .NotEq) (rD2 X.K dNe) := fun pins s σ H x y v u Q I rx ry ⟨F, d, e, z, sb, r1, r2, h, q⟩ => by
  rcases dNe_cases h with ⟨a, b, rfl, rfl, rfl⟩ | h
  · cases r1.str; cases r2.str
    exact op_ne pins s σ H _ _ v u Q I rx ry ⟨rfl, by rw [dec_strV]; exact q _ F H (Al.refl sb) (.bl _)⟩
  · exact ow_neP hu pins s σ H x y v u Q I rx ry ⟨F, d, e, z, sb, r1, r2, h, q⟩
end
end Cq

set_option Elab.async false
set_option linter.all false
set_option maxRecDepth 100000
namespace Cq
open PySem PySem.Spec PyProof.Rows L2
def anyEq (d : D) (es : List D) : Option D := match d.py, pyL es with
  | some p, some ps => if SeqAt.shaped p = true ∧ SeqAt.shaped (.list ps) = true then some (.bl (ps.any fun z => PyData.eqv z p)) else none
  | _, _ => none
def flatD : D → Bool
  | .int _ => true
  | .str _ => true
  | .bl _ => true
  | .non => true
  | _ => false
def eqF : D → D → Bool
  | .non, .non => true
  | .bl a, .bl b => a == b
  | .bl a, .int j => (if a then 1 else 0) == j
  | .int i, .bl b => i == (if b then 1 else 0)
  | .int i, .int j => decide (i = j)
  | .str x, .str y => decide (x = y)
  | _, _ => false
def oneSign (x : Str) : Option Nat := match x.cps.toList with
  | [c] => some c
  | _ => none
/-- x in a tuple of flat things, in a list of data, a sign in a text -/
def dIn : D → D → Option D
  | d, .tup es => if flatD d = true ∧ es.all flatD = true then some (.bl (es.any fun z => eqF z d)) else none
  | d, .lst es => anyEq d es
  | .str x, .str y => match oneSign x with
    | some c => some (.bl (decide (c ∈ y.cps.toList)))
    | none => none
  | _, _ => none
def dNotIn (d e : D) : Option D := match dIn d e with
  | some (.bl b) => some (.bl (!b))
  | _ => none
def dIx : D → D → Option D
  | .lst xs, .int i => atI xs i
  | .tup xs, .int i => atI xs i
  | .scr ns, .int i => (atI ns i).map .int
  | .str z, .int i => if z.length ≤ 1000000 then (atI z.cps.toList i).map fun c => .str ⟨#[c]⟩ else none
  | _, _ => none
def cutD (xs : List D) (lo hi : Option Int) : List D := (xs.drop (HT.sIx xs.length 0 lo)).take (HT.sIx xs.length xs.length hi - HT.sIx xs.length 0 lo)
def dSl : D → Option Int → Option Int → Option D
  | .tup xs, lo, hi => some (.tup (cutD xs lo hi))
  | .lst xs, lo, hi => some (.lst (cutD xs lo hi))
  | .str z, lo, hi => if z.length ≤ 1000000 then some (.str (Txt.slice z lo hi)) else none
  | _, _, _ => none
section
variable {X : Cx} {W : WX} {pos : Pos} {σ : L2.St} {F H F0 H0 : Hp} {g g0 : Gm}
theorem flat_rep {K : Frag} {v : V} {d : D} (r : Rep K F v d) (f : flatD d = true) : flatV v = true := by
  cases r <;> first | rfl | cases f
theorem flat_eq {K : Frag} {v w : V} {d e : D} (r : Rep K F v d) (q : Rep K F w e) (f : flatD d = true) (f' : flatD e = true) : eqV v w = eqF d e := by
  cases r <;> first | cases f | skip
  all_goals (cases q <;> first | cases f' | skip)
  all_goals first | rfl | (simp [eqV, eqF])
theorem flat_all {K : Frag} : ∀ {vs : List V} {ds : List D}, Reps K F vs ds → ds.all flatD = true → vs.all flatV = true
  | _, _, .nil, _ => rfl
  | _, d :: ds, .cons r t, h => by
    simp only [List.all_cons, Bool.and_eq_true] at h ⊢
    exact ⟨flat_rep r h.1, flat_all t h.2⟩
theorem flat_any {K : Frag} {v : V} {d : D} (r : Rep K F v d) (f : flatD d = true) : ∀ {vs : List V} {ds : List D}, Reps K F vs ds → ds.all flatD = true → (vs.any fun y => eqV y v) = ds.any fun z => eqF z d
  | _, _, .nil, _ => rfl
  | _, e :: ds, .cons q t, h => by
    simp only [List.all_cons, Bool.and_eq_true] at h
    simp only [List.any_cons]
    rw [flat_eq q r h.1 f, flat_any r f t h.2]
theorem rov_flat {K : Frag} {v : V} {d : D} (r : RoV K F H v d) (f : flatD d = true) : Rep K F v d := by
  rcases r with r | ⟨a, rfl, c, _⟩
  · exact r
  · cases d <;> first | exact c.elim | cases f
theorem one_sign {x : Str} {c : Nat} (h : oneSign x = some c) : x = ⟨#[c]⟩ := by
  unfold oneSign at h
  cases q : x.cps.toList with
  | nil => rw [q] at h; cases h
  | cons a t => cases t with
    | nil =>
      rw [q] at h; cases h
      cases x with
      | mk cps => exact congrArg Str.mk (Array.toList_inj.mp (by simpa using q))
    | cons _ _ => rw [q] at h; cases h
theorem ow_in (hu : X.A.units + 65 < cLine) : OpR X (compareOp .In) (rD2 X.K dIn) := by
  refine opD (OpR.or op_in_seq (OpR.or (op_inD hu) op_in_sign)) fun x y H Q ⟨F, d, e, z, s, r1, r2, h, q⟩ => ?_
  have A := Al.refl s
  cases e with
  | tup es =>
    simp only [dIn] at h
    by_cases c : flatD d = true ∧ es.all flatD = true
    · rw [if_pos c] at h; cases h
      obtain ⟨p, vs, rfl, k1, k2, _⟩ := r2.tup s
      have r := rov_flat r1 c.1
      refine .inl ⟨p, vs, rfl, .inr k1, flat_rep r c.1, flat_all k2 c.2, ?_⟩
      show Q (.bl (inV x vs)) H
      rw [show inV x vs = es.any fun z => eqF z d from flat_any r c.1 k2 c.2]
      exact q _ F H A (.bl _)
    · rw [if_neg c] at h; cases h
  | lst es =>
    have h : anyEq d es = some z := by cases d <;> exact h
    unfold anyEq at h
    cases p1 : d.py with
    | none => rw [p1] at h; cases h
    | some p => cases p2 : pyL es with
      | none => rw [p1, p2] at h; cases h
      | some ps =>
        rw [p1, p2] at h
        have h : (if SeqAt.shaped p = true ∧ SeqAt.shaped (.list ps) = true then some (D.bl (ps.any fun z => PyData.eqv z p)) else none) = some z := h
        by_cases c : SeqAt.shaped p = true ∧ SeqAt.shaped (.list ps) = true
        · rw [if_pos c] at h; cases h
          exact .inr (.inl ⟨p, ps, r1.dp s p1, r2.dp s (by simp only [D.py, p2]; rfl), c.1, c.2, q _ F H A (.bl _)⟩)
        · rw [if_neg c] at h; cases h
  | str y' =>
    cases d with
    | str x' =>
      simp only [dIn] at h
      cases o : oneSign x' with
      | none => rw [o] at h; cases h
      | some c =>
        rw [o] at h; cases h
        cases r1.str; cases r2.str
        rw [one_sign o]
        exact .inr (.inr ⟨c, y', rfl, rfl, q _ F H A (.bl _)⟩)
    | _ => simp [dIn] at h
  | _ => cases d <;> simp [dIn] at h
theorem ow_notIn (hu : X.A.units + 65 < cLine) : OpR X (compareOp .NotIn) (rD2 X.K dNotIn) := by
  refine opD (OpR.or op_notIn_seq (OpR.or (op_notInD hu) op_notIn_sign)) fun x y H Q ⟨F, d, e, z, s, r1, r2, h, q⟩ => ?_
  have A := Al.refl s
  unfold dNotIn at h
  cases e with
  | tup es =>
    simp only [dIn] at h
    by_cases c : flatD d = true ∧ es.all flatD = true
    · rw [if_pos c] at h; cases h
      obtain ⟨p, vs, rfl, k1, k2, _⟩ := r2.tup s
      have r := rov_flat r1 c.1
      refine .inl ⟨p, vs, rfl, .inr k1, flat_rep r c.1, flat_all k2 c.2, ?_⟩
      show Q (.bl (!inV x vs)) H
      rw [show inV x vs = es.any fun z => eqF z d from flat_any r c.1 k2 c.2]
      exact q _ F H A (.bl _)
    · rw [if_neg c] at h; cases h
  | lst es =>
    have e1 : dIn d (.lst es) = anyEq d es := by cases d <;> rfl
    rw [e1] at h
    unfold anyEq at h
    cases p1 : d.py with
    | none => simp only [p1] at h; cases h
    | some p => cases p2 : pyL es with
      | none => simp only [p1, p2] at h; cases h
      | some ps =>
        simp only [p1, p2] at h
        by_cases c : SeqAt.shaped p = true ∧ SeqAt.shaped (.list ps) = true
        · rw [if_pos c] at h; cases h
          exact .inr (.inl ⟨p, ps, r1.dp s p1, r2.dp s (by simp only [D.py, p2]; rfl), c.1, c.2, q _ F H A (.bl _)⟩)
        · rw [if_neg c] at h; cases h
  | str y' =>
    cases d with
    | str x' =>
      simp only [dIn] at h
      cases o : oneSign x' with
      | none => simp only [o] at h; cases h
      | some c =>
        simp only [o] at h; cases h
        cases r1.str; cases r2.str
        rw [one_sign o]
        exact .inr (.inr ⟨c, y', rfl, rfl, q _ F H A (.bl _)⟩)
    | _ => simp [dIn] at h
  | _ => cases d <;> simp [dIn] at h
theorem atI_rep {K : Frag} {vs : List V} {ds : List D} {i : Int} {d : D} (r : Reps K F vs ds) (h : atI ds i = some d) : ∃ v, atI vs i = some v ∧ Rep K F v d := by
  unfold atI at h ⊢
  rw [r.length]
  cases o : ixN ds.length i with
  | none => rw [o] at h; cases h
  | some j =>
    rw [o] at h
    obtain ⟨v, h1, h2⟩ := r.getV (show ds[j]? = some d from h)
    exact ⟨v, h1, h2⟩
theorem ow_ix : IxR X (rD2 X.K dIx) := by
  intro value slice pins s σ H x y v u Q I rx ry h hs
  refine ix_seq value slice pins s σ H x y v u Q I rx ry ?_ hs
  obtain ⟨F, d, e, z, sb, r1, r2, h, q⟩ := h
  have A := Al.refl sb
  cases e with
  | int i =>
    cases r2.int
    cases d with
    | lst ds =>
      obtain ⟨p, vs, rfl, k1, k2⟩ := r1.lst sb
      obtain ⟨w, h1, h2⟩ := atI_rep k2 h
      exact .inl ⟨p, vs, i, w, rfl, rfl, .inl (.inl k1), h1, q w F H A h2⟩
    | tup ds =>
      obtain ⟨p, vs, rfl, k1, k2, _⟩ := r1.tup sb
      obtain ⟨w, h1, h2⟩ := atI_rep k2 h
      exact .inr (.inl ⟨p, vs, i, w, rfl, rfl, k1, h1, q w F H A h2⟩)
    | scr ns =>
      simp only [dIx] at h
      cases o : atI ns i with
      | none => rw [o] at h; cases h
      | some n =>
        rw [o] at h; cases h
        rcases r1 with r1 | ⟨a, rfl, c, _⟩
        · cases r1 with
          | scr hq =>
            have : atI (ns.map V.int) i = some (.int n) := by
              unfold atI at o ⊢
              rw [List.length_map]
              cases o2 : ixN ns.length i with
              | none => rw [o2] at o; cases o
              | some j => rw [o2] at o; show (ns.map V.int)[j]? = _; rw [List.getElem?_map, show ns[j]? = some n from o]; rfl
            exact .inl ⟨_, _, i, _, rfl, rfl, sb.seq hq, this, q _ F H A (.int n)⟩
        · exact c.elim
    | str z' =>
      simp only [dIx] at h
      by_cases l : z'.length ≤ 1000000
      · rw [if_pos l] at h
        cases o : atI z'.cps.toList i with
        | none => rw [o] at h; cases h
        | some c =>
          rw [o] at h; cases h
          cases r1.str
          exact .inr (.inr ⟨z', i, c, rfl, rfl, line_le l, o, q _ F H A (.str _)⟩)
      · rw [if_neg l] at h; cases h
    | _ => simp [dIx] at h
  | _ => cases d <;> simp [dIx] at h
/-- a slice's bounds -/
def relP : Rl (Option Int) (Option Int) := fun _ _ _ _ _ a b => a = b
def SPo (X : Cx) (W : WX) (e : Option Expr) (m : M (Option Int)) : Prop := PO X e (tG X.K W relP m)
theorem PO_imp {e : Option Expr} {t t' : TO} (h : PO X e t) (k : ∀ σ H Q, t' σ H Q → t σ H Q) : PO X e t' := ⟨fun pins s σ H Q I q => h.run pins s σ H Q I (k σ H Q q)⟩
theorem spo_none : SPo X W none (M.ret none) := PO_imp po_none fun σ H Q q => by
  obtain ⟨F, g, S, q⟩ := q
  exact q none F H S Stp.refl rfl
def dSome : D → M (Option Int)
  | .int i => M.ret (some i)
  | _ => M.fail
theorem spo_some {e : Expr} {m : M D} (h : SE X W e m) : SPo X W (some e) (m.bind dSome) := PO_imp (po_some h) fun σ H Q q => by
  obtain ⟨F, g, S, q⟩ := q
  refine ⟨F, g, S, Pst_bind Stp.refl q fun d v F1 H1 g1 S1 P1 P01 r1 q1 => ?_⟩
  have r1 : Rep X.K F1 v d := r1
  cases d with
  | int i => cases r1; exact ⟨i, rfl, q1 _ F1 H1 S1 P01 rfl⟩
  | _ => exact q1.elim
def mSl (ma : M Hd) (ml mh : M (Option Int)) : M D := ma.bind fun a => ml.bind fun lo => mh.bind fun hi => mF1 (fun d => dSl d lo hi) a
theorem cut_rep {K : Frag} {vs : List V} {ds : List D} {lo hi : Option Int} (r : Reps K F vs ds) : Reps K F (cutV vs lo hi) (cutD ds lo hi) := by
  unfold cutV cutD
  rw [r.length]
  exact (r.drop _).take _
theorem se_slice {e : Expr} {lo hi : Option Expr} {p2 : Pos} {ma : M Hd} {ml mh : M (Option Int)} (he : SO X W e ma) (hl : SPo X W lo ml) (hu : SPo X W hi mh) : SE X W (.Subscript e (.Slice lo hi none p2) pos) (mSl ma ml mh) :=
  PE_imp (pe_slice (SlR.or sl_tupA (SlR.or sl_list C8.sl_txt)) he hl hu) fun σ H Q q => by
    obtain ⟨F, g, S, q⟩ := q
    refine ⟨F, g, S, Pst_bind Stp.refl q fun h v F1 H1 g1 S1 P1 P01 r1 q1 => ⟨F1, g1, S1, Pst_bind P01 q1 fun lo l F2 H2 g2 S2 P2 P02 r2 q2 => ⟨F2, g2, S2, Pst_bind P02 q2 fun hi u F3 H3 g3 S3 P3 P03 r3 q3 => ?_⟩⟩⟩
    cases (show lo = l from r2)
    cases (show hi = u from r3)
    obtain ⟨F4, d, z, sb, r, hz, k⟩ := f1_ok S3 P03 (HdR.mono (P2.fg.trans P3.fg) r1) q3
    cases d with
    | tup ds =>
      simp only [dSl] at hz; cases hz
      obtain ⟨p, vs, rfl, k1, k2, k3⟩ := r.tup sb
      refine .inl ⟨p, vs, rfl, k1, fun e => ?_, fun _ t nt => ?_⟩
      · have : cutD ds lo hi = ds := by
          unfold cutD
          rw [← k2.length, e.1, e.2]
          simp [k2.length]
        rw [this] at k
        exact k _ F4 H3 (Al.refl sb) k3
      · obtain ⟨A', r'⟩ := al_tup (X := X) sb nt (cut_rep k2)
        exact k _ _ _ A' r'
    | lst ds =>
      simp only [dSl] at hz; cases hz
      obtain ⟨p, vs, rfl, k1, k2⟩ := r.lst sb
      refine .inr (.inl ⟨p, vs, rfl, .inl (.inl k1), fun t nt => ?_⟩)
      obtain ⟨A', r'⟩ := al_lst (X := X) sb nt (cut_rep k2)
      exact k _ _ _ A' r'
    | str z' =>
      simp only [dSl] at hz
      by_cases l : z'.length ≤ 1000000
      · rw [if_pos l] at hz; cases hz
        cases r.str
        exact .inr (.inr ⟨z', rfl, line_le l, k _ F4 H3 (Al.refl sb) (.str _)⟩)
      · rw [if_neg l] at hz; cases hz
    | _ => simp [dSl] at hz
theorem callD {u : Value} {r r' : List V → Hp → VK → Prop} (hc : CallR X u r) (k : ∀ xs H Q, r' xs H Q → r xs H Q) : CallR X u r' := fun pins s σ H vs us Q I rv h => hc pins s σ H vs us Q I rv (k vs H Q h)
variable {e : Expr} {es : List Expr} {x : Str} {p : Pos} {bid T : String} {f : List D → Option D} {ma : M (List Hd)}
theorem se_callB (hc : CallR X (.builtin bid) (rDs X.K f)) (hg : Gl X x) (hm : X.mg x = none) (hv : bootBuiltins x = some (.builtin bid)) (ha : SA X W (e :: es) ma) (hn : x ≠ "__name__" := by decide) (hdb : (x == ("__debug__" : Str)) = false := by decide)
    (he : starEach (e :: es) X.env = (false, eval e X.env) :: starEach es X.env := by rfl) (hpl : (backTo pos (starEach es X.env)).any (·.1) = false := by rfl) : SE X W (.Call (.Name x p) (e :: es) [] pos) (mCall f ma) :=
  PE_imp (pe_callB hc hg hm hv ha hn hdb he hpl) fun σ H Q q => by
    obtain ⟨F, g, S, q⟩ := q
    exact ⟨F, g, S, Pst_bind Stp.refl q fun hs vs F1 H1 g1 S1 P1 P01 r1 q1 => fs_ok S1 P01 r1 q1⟩
theorem sn_callB (hc : CallR X (.builtin bid) (rNs X.K f)) (hg : Gl X x) (hm : X.mg x = none) (hv : bootBuiltins x = some (.builtin bid)) (ha : SA X W (e :: es) ma) (hn : x ≠ "__name__" := by decide) (hdb : (x == ("__debug__" : Str)) = false := by decide)
    (he : starEach (e :: es) X.env = (false, eval e X.env) :: starEach es X.env := by rfl) (hpl : (backTo pos (starEach es X.env)).any (·.1) = false := by rfl) : SN X W (.Call (.Name x p) (e :: es) [] pos) (mCall f ma) :=
  PE_imp (pe_callB hc hg hm hv ha hn hdb he hpl) fun σ H Q q => by
    obtain ⟨F, g, S, q⟩ := q
    exact ⟨F, g, S, Pst_bind Stp.refl q fun hs vs F1 H1 g1 S1 P1 P01 r1 q1 => fsN_ok S1 P01 r1 q1⟩
theorem se_callTy (hc : CallR X (.type T) (rDs X.K f)) (hg : Gl X x) (hm : X.mg x = none) (hv : bootBuiltins x = some (.type T)) (ha : SA X W (e :: es) ma) (hn : x ≠ "__name__" := by decide) (hdb : (x == ("__debug__" : Str)) = false := by decide)
    (he : starEach (e :: es) X.env = (false, eval e X.env) :: starEach es X.env := by rfl) (hpl : (backTo pos (starEach es X.env)).any (·.1) = false := by rfl) : SE X W (.Call (.Name x p) (e :: es) [] pos) (mCall f ma) :=
  PE_imp (pe_callTy hc hg hm hv ha hn hdb he hpl) fun σ H Q q => by
    obtain ⟨F, g, S, q⟩ := q
    exact ⟨F, g, S, Pst_bind Stp.refl q fun hs vs F1 H1 g1 S1 P1 P01 r1 q1 => fs_ok S1 P01 r1 q1⟩
def dLen : List D → Option D
  | [.lst xs] => some (.int xs.length)
  | [.tup xs] => some (.int xs.length)
  | [.scr ns] => some (.int ns.length)
  | [.str z] => if z.length ≤ 1000000 then some (.int z.length) else none
  | _ => none
theorem rovs1 {K : Frag} {xs : List V} {d : D} (r : RoVs K F H xs [d]) : ∃ v, xs = [v] ∧ RoV K F H v d := by
  cases r with
  | cons a b => cases b; exact ⟨_, rfl, a⟩
theorem rovs2 {K : Frag} {xs : List V} {d e : D} (r : RoVs K F H xs [d, e]) : ∃ v w, xs = [v, w] ∧ RoV K F H v d ∧ RoV K F H w e := by
  cases r with
  | cons a b => cases b with
    | cons b c => cases c; exact ⟨_, _, rfl, a, b⟩
theorem one_arg {α β : Type} {f : List α → Option β} {ds : List α} {z : β} (h : f ds = some z) (n0 : f [] = none) (n2 : ∀ a b r, f (a :: b :: r) = none) : ∃ d, ds = [d] := by
  cases ds with
  | nil => rw [n0] at h; cases h
  | cons a t => cases t with
    | nil => exact ⟨a, rfl⟩
    | cons b r => rw [n2] at h; cases h
theorem cw_len : CallR X (.builtin "len") (rDs X.K dLen) := by
  refine callD (CallR.or call_len_seq call_len_str) fun xs H Q ⟨F, ds, z, s, r, h, q⟩ => ?_
  have A := Al.refl s
  obtain ⟨d, rfl⟩ := one_arg h rfl fun a b r => by cases a <;> rfl
  obtain ⟨v, rfl, k0⟩ := rovs1 r
  clear r
  have r := k0
  cases d with
  | lst ds =>
    cases h
    obtain ⟨p, vs, rfl, k1, k2⟩ := r.lst s
    exact .inl ⟨p, vs, rfl, .inl (.inl (.inl k1)), by rw [k2.length]; exact q _ F H A (.int _)⟩
  | tup ds =>
    cases h
    obtain ⟨p, vs, rfl, k1, k2, _⟩ := r.tup s
    exact .inl ⟨p, vs, rfl, .inr k1, by rw [k2.length]; exact q _ F H A (.int _)⟩
  | scr ns =>
    cases h
    rcases r with r | ⟨a, rfl, c, _⟩
    · cases r with
      | scr hq => exact .inl ⟨_, _, rfl, .inl (s.seq hq), by rw [List.length_map]; exact q _ F H A (.int _)⟩
    · exact c.elim
  | str z' =>
    simp only [dLen] at h
    by_cases l : z'.length ≤ 1000000
    · rw [if_pos l] at h; cases h
      cases r.str
      exact .inr ⟨z', rfl, line_le l, q _ F H A (.int _)⟩
    · rw [if_neg l] at h; cases h
  | _ => cases h
def dTuple : List D → Option D
  | [.lst xs] => some (.tup xs)
  | [.tup xs] => some (.tup xs)
  | _ => none
theorem cw_tuple : CallR X (.type "tuple") (rDs X.K dTuple) := by
  refine callD call_tuple_of fun xs H Q ⟨F, ds, z, s, r, h, q⟩ => ?_
  obtain ⟨d, rfl⟩ := one_arg h rfl fun a b r => by cases a <;> rfl
  obtain ⟨v, rfl, k0⟩ := rovs1 r
  clear r
  have r := k0
  cases d with
  | lst ds =>
    cases h
    obtain ⟨p, vs, rfl, k1, k2⟩ := r.lst s
    refine ⟨p, vs, rfl, .inl ⟨.inl (.inl k1), fun t nt => ?_⟩⟩
    obtain ⟨A', r'⟩ := al_tup (X := X) s nt k2
    exact q _ _ _ A' r'
  | tup ds =>
    cases h
    obtain ⟨p, vs, rfl, k1, k2, k3⟩ := r.tup s
    exact ⟨p, vs, rfl, .inr ⟨k1, q _ F H (Al.refl s) k3⟩⟩
  | _ => cases h
theorem new_lst {vs : List V} {ds : List D} {p : Addr} (s : Sub F H) (n : H p = none) (r : Reps X.K F vs ds) : Al F H F (upd H p (.lst vs)) ∧ Cell X.K F (upd H p (.lst vs)) p (.lst ds) ∧ ∀ x, Foot (upd H p (.lst vs)) p x → H x = none ∧ F x = none :=
  ⟨Al.mkN s n, ⟨vs, upd_same, r⟩, fun x f => by cases foot_upd (o := HO.lst vs) (fun _ _ _ z => nomatch z) f; exact ⟨n, sub_none s n⟩⟩
def dAll : List D → Option D
  | [.lst xs] => (blsOf xs).map fun bs => .bl (bs.all id)
  | _ => none
theorem cw_all (hc : X.calm = true) : CallR X (.builtin "all") (rDs X.K dAll) := by
  refine callD (cr_all hc) fun xs H Q ⟨F, ds, z, s, r, h, q⟩ => ?_
  obtain ⟨d, rfl⟩ := one_arg h rfl fun a b r => by cases a <;> rfl
  obtain ⟨v, rfl, k0⟩ := rovs1 r
  clear r
  have r := k0
  cases d with
  | lst ds =>
    simp only [dAll] at h
    cases o : blsOf ds with
    | none => rw [o] at h; cases h
    | some bs =>
      rw [o] at h; cases h
      obtain ⟨p, vs, rfl, k1, k2⟩ := r.lst s
      rw [blsOf_ok o] at k2
      exact ⟨p, bs, rfl, .inl (.inl (by rw [← k2.bools]; exact k1)), q _ F H (Al.refl s) (.bl _)⟩
  | _ => cases h
def dMax2 : List D → Option D
  | [.int i, .int j] => some (.int (max i j))
  | _ => none
def dMin2 : List D → Option D
  | [.int i, .int j] => some (.int (min i j))
  | _ => none
theorem two_arg {α β : Type} {f : List α → Option β} {ds : List α} {z : β} (h : f ds = some z) (n0 : f [] = none) (n1 : ∀ a, f [a] = none) (n2 : ∀ a b c r, f (a :: b :: c :: r) = none) : ∃ d e, ds = [d, e] := by
  cases ds with
  | nil => rw [n0] at h; cases h
  | cons a t => cases t with
    | nil => rw [n1] at h; cases h
    | cons b r => cases r with
      | nil => exact ⟨a, b, rfl⟩
      | cons c r => rw [n2] at h; cases h
theorem cw_max2 (hc : X.calm = true) : CallR X (.builtin "max") (rDs X.K dMax2) := by
  refine callD (call_max2 hc) fun xs H Q ⟨F, ds, z, s, r, h, q⟩ => ?_
  obtain ⟨d, e, rfl⟩ := two_arg h rfl (fun a => by cases a <;> rfl) fun a b c r => by cases a <;> cases b <;> rfl
  obtain ⟨v, w, rfl, k0, k1⟩ := rovs2 r
  clear r
  have r := k0
  have r' := k1
  cases d <;> cases e <;> simp only [dMax2] at h <;> first | cases h | skip
  rename_i i j
  cases r.int; cases r'.int
  refine ⟨i, j, rfl, ?_⟩
  rw [show (if j > i then j else i) = max i j by split <;> omega]
  exact q _ F H (Al.refl s) (.int _)
theorem cw_min2 (hc : X.calm = true) : CallR X (.builtin "min") (rDs X.K dMin2) := by
  refine callD (call_min2 hc) fun xs H Q ⟨F, ds, z, s, r, h, q⟩ => ?_
  obtain ⟨d, e, rfl⟩ := two_arg h rfl (fun a => by cases a <;> rfl) fun a b c r => by cases a <;> cases b <;> rfl
  obtain ⟨v, w, rfl, k0, k1⟩ := rovs2 r
  clear r
  have r := k0
  have r' := k1
  cases d <;> cases e <;> simp only [dMin2] at h <;> first | cases h | skip
  rename_i i j
  cases r.int; cases r'.int
  refine ⟨i, j, rfl, ?_⟩
  rw [show (if j < i then j else i) = min i j by split <;> omega]
  exact q _ F H (Al.refl s) (.int _)
def dStr : List D → Option D
  | [.int i] => if i.natAbs < 2 ^ 64 then some (.str (toString i : String)) else none
  | [.str z] => some (.str z)
  | _ => none
theorem log64 {i : Int} (h : i.natAbs < 2 ^ 64) : i.natAbs.log2 < 1920 := Nat.lt_trans (PySem.Flt.log2_lt_of (by decide : 0 < 64) h) (by decide)
def dInt : List D → Option D
  | [.str z] => if z.length ≤ 640 then (PySem.intText? z).map .int else none
  | _ => none
end
end Cq

set_option Elab.async false
set_option linter.all false
set_option maxRecDepth 100000
namespace Cq.S
open PySem PySem.W PySem.Calls PyProof.Rows
section
variable {prog : Program} {w : World} {A : Around} {E : Value → Shared → Prop} {s : Shared} {β : Type} {vs : List Value} {bs : List β} {enc : β → PyData} {R : Value → β → Prop}
theorem collect_tup {l : Addr} {Q : List Value → Shared → Prop} (hl : s.heap.IsTuple l vs.toArray)
    (h : Q vs { s with heap := (s.heap.push (seqObj "list" #[] 0)).update s.heap.objs.size (Obj.mapSeq (· ++ vs.toArray)) }) (hsz : vs.length ≤ sizeLine) :
    wpAny (model prog w) A (collect (.ref l)) Q E s := by
  obtain ⟨o, ho, hc, n, hd⟩ := id hl
  unfold collect
  refine wpAny_bind (wpAny_runValue (codeAny_builtin entry_proto_collect' ?_))
  show wpAny _ _ (do again (.builtin "list.__iadd__" ⟨[← newList [], .ref l], []⟩)) _ _ s
  refine wpAny_bind (wpAny_newList (wpAny_pure ⟨Code.quiet_builtin _ (by decide +kernel), codeAny_builtin entry_list_iadd' ?_⟩))
  show wpAny _ _ (Builtin.List.listExtendWith (.ref s.heap.objs.size) (.ref l) (.ref s.heap.objs.size)) _ _ { s with heap := s.heap.push (seqObj "list" #[] 0) }
  unfold Builtin.List.listExtendWith
  have ho' : (s.heap.push (seqObj "list" #[] 0)).get? l = some o := Heap.get?_push_of_some _ ho
  refine wpAny_bind (wpAny_typeOf (T := "tuple") ⟨o, ho', hc⟩ ?_)
  have ht : (Value.type "tuple" == Value.type "tuple") = true := by rfl
  rw [if_pos (by rw [ht]; simp)]
  refine wpAny_bind (listItems_at ho' hd ?_)
  refine wpAny_bind (listItems_at (xs := #[]) (n := 0) (Heap.get?_push_size _ rfl) rfl ?_)
  rw [if_neg (by simp)]
  refine wpAny_bind (listUpdate_at (xs := #[]) (n := 0) (Heap.get?_push_size _ rfl) rfl ?_ (Nat.zero_le _) (by show (#[] ++ vs.toArray).size ≤ sizeLine + 1; simp only [Array.size_append, List.size_toArray, List.length_nil]; omega))
  refine wpAny_pure ?_
  show wpAny (model prog w) A (do
      let o ← load s.heap.objs.size
      match o.data with
      | .seq xs _ => pure xs.toList
      | _ => unsupported "internal:collect") Q E { s with heap := (s.heap.push (seqObj "list" #[] 0)).update s.heap.objs.size (Obj.mapSeq (· ++ vs.toArray)) }
  refine wpAny_bind (wpAny_load (get?_update_seq (Heap.get?_push_size _ rfl) _) ?_)
  show wpAny _ _ (pure ((#[] : Array Value) ++ vs.toArray).toList) Q E _
  rw [show ((#[] : Array Value) ++ vs.toArray).toList = vs by simp]
  exact wpAny_pure h
theorem sorted_of_sortT {l : Addr} {kw : List (Str × Value)} {Q : Value → Shared → Prop} (hl : s.heap.IsTuple l vs.toArray) (hL : vs.length ≤ sizeLine) (ha1 : argsOk "sorted" ⟨[.ref l], kw⟩) (ha2 : ∀ x, argsOk "list.sort" ⟨[.ref x], kw⟩)
    (body : ∀ E' : Value → Shared → Prop, wpAny (model prog w) A.in1.in1 (Builtin.«list.sort» ⟨[.ref (s.heap.objs.size + 1)], kw⟩) (fun f s' => f = .done (.ret .none) ∧ Q (.ref (s.heap.objs.size + 1)) s') E' { s with heap := copyHeap s.heap vs }) :
    wpAny (model prog w) A (call (.builtin "sorted") [.ref l] kw) Q E s := by
  refine call_function_entry_kw kind_sorted plain_sorted entry_sorted ha1 ?_
  unfold Builtin.«sorted»
  refine wpAny_bind (m := checkCount "sorted" 1 1 _) (wpAny_pure ?_)
  refine wpAny_bind (collect_tup hl ?_ hL)
  refine wpAny_bind (wpAny_newList ?_ hL)
  have hsz : ((s.heap.push (seqObj "list" #[] 0)).update s.heap.objs.size (Obj.mapSeq (· ++ vs.toArray))).objs.size = s.heap.objs.size + 1 := by
    rw [Heap.size_update, size_push']
  show wpAny _ _ _ _ _ { s with heap := copyHeap s.heap vs }
  rw [hsz]
  refine wpAny_bind (wpAny_holding (wpAny_call_entry_kw slot_list_sort ⟨_, copyHeap_at s.heap vs, rfl⟩ entry_list_sort ?body (ha2 _)))
  case body =>
    show wpAny (model prog w) A.in1.in1 (Builtin.«list.sort» ⟨[.ref (s.heap.objs.size + 1)], kw⟩) _ _ _
    refine wpAny_mono (body _) (fun f s' hf => ?_) fun _ _ e => e
    obtain ⟨rfl, hq⟩ := hf
    exact ⟨_, rfl, wpAny_pure ⟨_, rfl, hq⟩⟩
theorem sorted_dataT {l : Addr} {Q : Value → Shared → Prop} (hl : s.heap.IsTuple l vs.toArray) (e : EachIs R vs bs) (er : EachIs (fun v b => ∃ as, Reads s.heap v (enc b) as) vs bs) (hal : AllAlike (bs.map enc)) (hk : Sortable (bs.map enc)) (hL : bs.length ≤ sizeLine)
    (hu : ∀ b, b ∈ bs → A.units + 2 + (enc b).depth < cLine) (h : ∀ out, out.length = bs.length → EachIs R out (bs.mergeSort (dataLe false enc)) → Q (.ref (s.heap.objs.size + 1)) { s with heap := sortedAll s.heap vs (List.toArray out) }) :
    wpAny (model prog w) A (call (.builtin "sorted") [.ref l]) Q E s := by
  have er' : EachIs (fun v b => ∃ as, Reads (sortingHeap (copyHeap s.heap vs) (s.heap.objs.size + 1) vs) v (enc b) as) vs bs := er.mono fun _ _ ⟨as, r⟩ => ⟨as, PyProof.Rows.Reads.keeps (fun _ _ => sorting_copy_old) r⟩
  exact sorted_of_sortT hl (by rw [e.length]; exact hL) (args_sorted1 _) (fun _ => args_list_sort _) fun _ => list_sort_vals (s := { s with heap := copyHeap s.heap vs }) (copyHeap_at s.heap vs)
    (SortsAt.data (s := { s with heap := sortingHeap (copyHeap s.heap vs) (s.heap.objs.size + 1) vs }) (each_map (R := fun v d => ∃ as, Reads (sortingHeap (copyHeap s.heap vs) (s.heap.objs.size + 1) vs) v d as) enc er') hal hk (bound_map hu)) (by rw [e.length]; exact hL)
    ⟨rfl, h _ (by rw [sortVals_length false rfl]; exact e.length) (sortVals_data false e er' hal)⟩
end
end Cq.S

set_option Elab.async false
set_option linter.all false
set_option maxRecDepth 100000
namespace Cq
open PySem PySem.Spec PyProof.Rows L2
def pyD (d : D) : PyData := match d.py with
  | some p => p
  | none => .none
def leD (d e : D) : Bool := PySem.W.dataLe false pyD d e
def alikeB (ps : List PyData) : Bool := ps.all fun a => ps.all fun b => PySem.W.alike a b
def othB : PyData → Bool
  | .tuple _ => false
  | .none => false
  | _ => true
def sortB (ps : List PyData) : Bool := alikeB ps && (ps.all tupB || ps.all othB) && ps.all fun p => decide (p.depth ≤ 60)
def dSortL (ds : List D) : Option (List D) := match pyL ds with
  | some ps => if sortB ps = true ∧ ds.length ≤ 1000000 then some (ds.mergeSort leD) else none
  | none => none
def dSorted : List D → Option D
  | [.lst xs] => (dSortL xs).map .lst
  | [.tup xs] => (dSortL xs).map .lst
  | _ => none
section
variable {X : Cx} {W : WX} {pos : Pos} {σ : L2.St} {F H F0 H0 : Hp} {g g0 : Gm}
theorem pyL_map : ∀ {ds : List D} {ps : List PyData}, pyL ds = some ps → ps = ds.map pyD
  | [], _, e => by simp only [pyL] at e; cases e; rfl
  | d :: ds, ps, e => by
    simp only [pyL] at e
    cases q : d.py with
    | none => rw [q] at e; cases e
    | some p => cases q2 : pyL ds with
      | none => rw [q, q2] at e; cases e
      | some qs => rw [q, q2] at e; cases e; rw [pyL_map q2, List.map_cons, show pyD d = p by unfold pyD; rw [q]]
theorem pyL_at : ∀ {ds : List D} {ps : List PyData}, pyL ds = some ps → ∀ d ∈ ds, d.py = some (pyD d)
  | [], _, _, d, h => by cases h
  | d :: ds, ps, e, d', h => by
    simp only [pyL] at e
    cases q : d.py with
    | none => rw [q] at e; cases e
    | some p => cases q2 : pyL ds with
      | none => rw [q, q2] at e; cases e
      | some qs =>
        rcases List.mem_cons.mp h with rfl | h
        · unfold pyD; rw [q]
        · exact pyL_at q2 d' h
theorem reps_zip {K : Frag} : ∀ {vs : List V} {ds : List D}, Reps K F vs ds → ∀ p ∈ vs.zip ds, Rep K F p.1 p.2
  | _, _, .nil, p, h => by cases h
  | _, _, .cons r t, p, h => by
    rcases List.mem_cons.mp h with rfl | h
    · exact r
    · exact reps_zip t p h
theorem reps_of_zip {K : Frag} : ∀ {bs : List (V × D)}, (∀ p ∈ bs, Rep K F p.1 p.2) → Reps K F (bs.map (·.1)) (bs.map (·.2))
  | [], _ => .nil
  | b :: bs, h => .cons (h b List.mem_cons_self) (reps_of_zip fun p hp => h p (List.mem_cons_of_mem _ hp))
theorem each_vals : ∀ {vs : List V} {ds : List D} {us : List Value}, Vals vs us → vs.length = ds.length → PySem.W.EachIs (fun v (b : V × D) => RelV b.1 v) us (vs.zip ds)
  | [], [], _, .nil, _ => .nil
  | v :: vs, d :: ds, _, .cons r t, h => .cons r (each_vals t (by simpa using h))
  | [], _ :: _, _, _, h => by simp at h
  | _ :: _, [], _, _, h => by simp at h
theorem vals_each : ∀ {us : List Value} {bs : List (V × D)}, PySem.W.EachIs (fun v (b : V × D) => RelV b.1 v) us bs → Vals (bs.map (·.1)) us
  | _, _, .nil => .nil
  | _, _, .cons r t => .cons r (vals_each t)
theorem each_reads {pins : List (Addr × Obj)} {s : Shared} (I : Inv X pins σ H s) (sb : Sub F H) : ∀ {us : List Value} {bs : List (V × D)}, PySem.W.EachIs (fun v (b : V × D) => RelV b.1 v) us bs → (∀ p ∈ bs, Rep X.K F p.1 p.2 ∧ p.2.py = some (pyD p.2)) → PySem.W.EachIs (fun v (b : V × D) => ∃ as, Reads s.heap v (pyD b.2) as) us bs
  | _, _, .nil, _ => .nil
  | _, _, .cons (a := u) (b := b) r t, h => .cons (by
      obtain ⟨h1, h2⟩ := h b List.mem_cons_self
      exact Dp.reads I _ _ _ (h1.dp sb h2) r) (each_reads I sb t fun p hp => h p (List.mem_cons_of_mem _ hp))
theorem sorted_go (hu : X.A.units + 64 < cLine) {pins : List (Addr × Obj)} {s : Shared} {Q : VK} {p : Addr} {vs : List V} {its : List Value} {ds : List D} {ps : List PyData} {W' : Value → Shared → Prop} (I : Inv X pins σ H s) (sb : Sub F H) (o : pyL ds = some ps) (c : sortB ps = true ∧ ds.length ≤ 1000000)
    (rv' : Vals vs its) (hl : s.heap.IsList p its.toArray ∨ s.heap.IsTuple p its.toArray) (k2 : Reps X.K F vs ds) (q : ∀ a F' H', Al F H F' H' → Cell X.K F' H' a (.lst (ds.mergeSort leD)) → (∀ x, Foot H' a x → H x = none ∧ F' x = none) → Q (.ref a) H') :
    wpAny (model X.prog X.w) X.A (call (.builtin "sorted") [.ref p]) (EP X pins σ Q) W' s := by
  have hps := pyL_map o
  have hat := pyL_at o
  obtain ⟨c1, c2⟩ := c
  simp only [sortB, Bool.and_eq_true] at c1
  obtain ⟨⟨ca, cs⟩, cd⟩ := c1
  have e1 := each_vals (ds := ds) rv' k2.length
  have hz2 : (vs.zip ds).map (·.2) = ds := List.map_snd_zip (by rw [k2.length]; exact Nat.le_refl _)
  have hmem : ∀ b ∈ vs.zip ds, Rep X.K F b.1 b.2 ∧ b.2.py = some (pyD b.2) := fun b hb => ⟨reps_zip k2 b hb, hat _ (by rw [← hz2]; exact List.mem_map_of_mem hb)⟩
  have e2 := each_reads I sb e1 hmem
  have hm : (vs.zip ds).map (fun b => pyD b.2) = ps := by rw [hps, ← hz2, List.map_map, hz2]; rfl
  have hal : PySem.W.AllAlike ((vs.zip ds).map fun b : V × D => pyD b.2) := by
    rw [hm]
    intro a ha b hb
    exact List.all_eq_true.mp (List.all_eq_true.mp ca a ha) b hb
  have hso : PySem.W.Sortable ((vs.zip ds).map fun b : V × D => pyD b.2) := by
    rw [hm]
    rcases Bool.or_eq_true_iff.mp cs with cs | cs
    · refine .inl fun d hd => ?_
      have t := List.all_eq_true.mp cs d hd
      cases d with
      | tuple xs => cases xs with
        | nil => cases t
        | cons x r => exact ⟨x, r, rfl⟩
      | _ => cases t
    · refine .inr fun d hd => ?_
      have t := List.all_eq_true.mp cs d hd
      match d, t with
      | .list _, _ => exact ⟨nofun, nofun⟩
      | .dict _, _ => exact ⟨nofun, nofun⟩
      | .bool _, _ => exact ⟨nofun, nofun⟩
      | .int _, _ => exact ⟨nofun, nofun⟩
      | .str _, _ => exact ⟨nofun, nofun⟩
  have hlen : (vs.zip ds).length ≤ sizeLine := by
    rw [List.length_zip, k2.length, Nat.min_self]; exact line_le c2
  have hdep : ∀ b, b ∈ vs.zip ds → X.A.units + 2 + (pyD b.2).depth < cLine := fun b hb => by
    have : pyD b.2 ∈ ps := by rw [← hm]; exact List.mem_map_of_mem (f := fun b : V × D => pyD b.2) hb
    have t := of_decide_eq_true (List.all_eq_true.mp cd _ this)
    omega
  have fin : ∀ out : List Value, out.length = (vs.zip ds).length → PySem.W.EachIs (fun v (b : V × D) => RelV b.1 v) out ((vs.zip ds).mergeSort (PySem.W.dataLe false fun b : V × D => pyD b.2)) → EP X pins σ Q (.ref (s.heap.objs.size + 1)) { s with heap := PyProof.Rows.sortedAll s.heap its (List.toArray out) } := fun out h1 h2 => by
    obtain ⟨ep, he'⟩ := PyProof.Rows.sortedAll_at s.heap its out.toArray
    have hvo := vals_each h2
    have hlen : (((vs.zip ds).mergeSort (PySem.W.dataLe false fun b : V × D => pyD b.2)).map (·.1)).length ≤ sizeLine := by
      rw [List.length_map, List.length_mergeSort, List.length_zip, k2.length, Nat.min_self]; exact line_le c2
    have hsorted : ((vs.zip ds).mergeSort (PySem.W.dataLe false fun b : V × D => pyD b.2)).map (·.2) = ds.mergeSort leD := by
      have e := PySem.W.sort_maps (r := PySem.W.dataLe false fun b : V × D => pyD b.2) (s := leD) (fun b : V × D => b.2) (l := vs.zip ds) (fun a _ b _ => rfl)
      exact e.trans (congrArg (fun l => List.mergeSort l leD) hz2)
    have hreps : Reps X.K F (((vs.zip ds).mergeSort (PySem.W.dataLe false fun b : V × D => pyD b.2)).map (·.1)) (ds.mergeSort leD) := by
      rw [← hsorted]
      exact reps_of_zip fun p hp => (hmem p (List.mem_mergeSort.mp hp)).1
    have np := I.hok.fresh (Nat.le_succ s.heap.objs.size)
    obtain ⟨A', c', n'⟩ := new_lst (X := X) sb np hreps
    exact ⟨.ref _, upd H (s.heap.objs.size + 1) (.lst (((vs.zip ds).mergeSort (PySem.W.dataLe false fun b : V × D => pyD b.2)).map (·.1))), I.laid (t' := s.toks) (fun _ _ => PyProof.Rows.sortedAll_old) (Nat.le_succ _) ⟨hlen, out, ep, hvo, he'⟩, rfl, q _ _ _ A' c' n'⟩
  rcases hl with hl | hl
  · exact PySem.W.sorted_data (enc := fun b : V × D => pyD b.2) (R := fun v (b : V × D) => RelV b.1 v) hl e1 e2 hal hso hlen hdep fin
  · exact Cq.S.sorted_dataT (enc := fun b : V × D => pyD b.2) (R := fun v (b : V × D) => RelV b.1 v) hl e1 e2 hal hso hlen hdep fin
theorem sortL_some {ds : List D} {z : D} (h : (dSortL ds).map D.lst = some z) : ∃ ps, pyL ds = some ps ∧ (sortB ps = true ∧ ds.length ≤ 1000000) ∧ z = .lst (ds.mergeSort leD) := by
  unfold dSortL at h
  cases o : pyL ds with
  | none => rw [o] at h; cases h
  | some ps =>
    rw [o] at h
    have h : (if sortB ps = true ∧ ds.length ≤ 1000000 then some (ds.mergeSort leD) else none).map D.lst = some z := h
    by_cases c : sortB ps = true ∧ ds.length ≤ 1000000
    · rw [if_pos c] at h; cases h; exact ⟨ps, rfl, c, rfl⟩
    · rw [if_neg c] at h; cases h
theorem cw_sorted (hu : X.A.units + 64 < cLine) : CallR X (.builtin "sorted") (rNs X.K dSorted) := by
  intro pins s σ H xs us Q I rv h
  obtain ⟨F, ds, z, sb, r, h, q⟩ := h
  obtain ⟨d, rfl⟩ := one_arg h rfl fun a b r => by cases a <;> rfl
  obtain ⟨v, rfl, k0⟩ := rovs1 r
  cases d with
  | lst ds =>
    obtain ⟨ps, o, c, rfl⟩ := sortL_some h
    obtain ⟨p, vs, rfl, k1, k2⟩ := k0.lst sb
    obtain ⟨its, rv', hl, hz⟩ := I.list (.inl (.inl k1))
    rw [Vals.ref1 rv]
    exact sorted_go hu I sb o c rv' (.inl hl.isList) k2 q
  | tup ds =>
    obtain ⟨ps, o, c, rfl⟩ := sortL_some h
    obtain ⟨p, vs, rfl, k1, k2, k3⟩ := k0.tup sb
    obtain ⟨its, rv', hl, hz⟩ := I.tuple k1
    rw [Vals.ref1 rv]
    exact sorted_go hu I sb o c rv' (.inr hl) k2 q
  | _ => cases h
theorem cw_str : CallR X (.type "str") (rDs X.K dStr) := by
  refine callD (CallR.or call_str_int SkE.call_str_str) fun xs H Q ⟨F, ds, z, s, r, h, q⟩ => ?_
  obtain ⟨d, rfl⟩ := one_arg h rfl fun a b r => by cases a <;> rfl
  obtain ⟨v, rfl, k0⟩ := rovs1 r
  cases d with
  | int i =>
    simp only [dStr] at h
    by_cases c : i.natAbs < 2 ^ 64
    · rw [if_pos c] at h; cases h
      cases k0.int
      exact .inl ⟨i, rfl, log64 c, q _ F H (Al.refl s) (.str _)⟩
    · rw [if_neg c] at h; cases h
  | str y =>
    cases h
    cases k0.str
    exact .inr ⟨y, rfl, q _ F H (Al.refl s) (.str _)⟩
  | _ => cases h
theorem cw_int : CallR X (.type "int") (rDs X.K dInt) := by
  refine callD call_int_str fun xs H Q ⟨F, ds, z, s, r, h, q⟩ => ?_
  obtain ⟨d, rfl⟩ := one_arg h rfl fun a b r => by cases a <;> rfl
  obtain ⟨v, rfl, k0⟩ := rovs1 r
  cases d with
  | str y =>
    simp only [dInt] at h
    by_cases c : y.length ≤ 640
    · rw [if_pos c] at h
      cases o : PySem.intText? y with
      | none => rw [o] at h; cases h
      | some n =>
        rw [o] at h; cases h
        cases k0.str
        exact ⟨y, n, rfl, o, c, q _ F H (Al.refl s) (.int _)⟩
    · rw [if_neg c] at h; cases h
  | _ => cases h
def isKind (T : String) : D → Bool
  | .str _ => T == "str"
  | .lst _ => T == "list"
  | _ => false
theorem rov_ty {v : V} {d : D} {T : String} (s : Sub F H) (r : RoV X.K F H v d) (k : isKind T d = true) : tyV X.K T v H := by
  cases d with
  | str x => cases r.str; exact eq_of_beq (show (T == "str") = true from k)
  | lst xs =>
    obtain ⟨p, vs, rfl, k1, k2⟩ := r.lst s
    exact .inl ⟨eq_of_beq (show (T == "list") = true from k), vs, .inl (.inl k1)⟩
  | _ => cases k
variable {o e : Expr} {es : List Expr} {name : Str} {apos cpos : Pos} {T bid : String} {f : D → List D → Option D} {mo : M Hd} {ma : M (List Hd)}
/-- the receiver's kind is looked at ahead of the arguments -/
def mKind (T : String) (h : Hd) : M Hd := fun g => match h.rd g with
  | some d => if isKind T d = true then some (.ok h g) else none
  | none => none
theorem kind_ok {T : String} {h : Hd} {v : V} {R : Prop} {γ δ : Type} {rel2 : Rl γ δ} {Q : δ → Hp → Prop} {k : Hd → M γ} (S : Sta X.K F g σ H) (r : HdR X.K F σ h v) (q : Pst X.K W σ rel2 F0 H0 g0 Q (((mKind T h).bind k) g)) (go : tyV X.K T v H → Pst X.K W σ rel2 F0 H0 g0 Q (k h g) → R) : R := by
  unfold M.bind mKind at q
  cases e : h.rd g with
  | none => simp only [e] at q; exact q.elim
  | some d =>
    simp only [e] at q
    by_cases c : isKind T d = true
    · simp only [if_pos c] at q; exact go (rov_ty S.sub (r.rov S e) c) q
    · simp only [if_neg c] at q; exact q.elim
def mMtK0 (T : String) (f : D → List D → Option D) (mo : M Hd) : M D := mo.bind fun h => (mKind T h).bind fun h => mFs (fun ds => match ds with | d :: es => f d es | [] => none) [h]
def mMtK (T : String) (f : D → List D → Option D) (mo : M Hd) (ma : M (List Hd)) : M D := mo.bind fun h => (mKind T h).bind fun h => ma.bind fun hs => mFs (fun ds => match ds with | d :: es => f d es | [] => none) (h :: hs)
theorem se_bm0 (pa : PlainAttrs T) (slot : Slot T name bid) (hty : typeOf (.builtin bid) = pure (.type "method_descriptor")) (hm : MtR X bid (rDm X.K f)) (ho : SO X W o mo)
    (hbase : attributeBase o name X.env (eval o X.env) = eval o X.env := by rfl) (hline : (apos.endLine == cpos.line) = true := by rfl) : SE X W (.Call (.Attribute o name apos) [] [] cpos) (mMtK0 T f mo) :=
  PE_imp (pe_bm0 pa slot hty hm ho hbase hline) fun σ H Q q => by
    obtain ⟨F, g, S, q⟩ := q
    refine ⟨F, g, S, Pst_bind Stp.refl q fun h v F1 H1 g1 S1 P1 P01 r1 q1 => kind_ok S1 r1 q1 fun ty q2 => ⟨ty, ?_⟩⟩
    exact fs_ok S1 P01 (.cons r1 .nil) q2
theorem se_bm (pa : PlainAttrs T) (slot : Slot T name bid) (hty : typeOf (.builtin bid) = pure (.type "method_descriptor")) (hm : MtR X bid (rDm X.K f)) (ho : SO X W o mo) (ha : SA X W (e :: es) ma)
    (hbase : attributeBase o name X.env (eval o X.env) = eval o X.env := by rfl)
    (hfew : ((backTo cpos (starEach (e :: es) X.env)).all (fun x => !x.1) && (backToKw cpos (keywordEach [] X.env)).all (fun x => x.1.isSome)
      && decide ((e :: es).length + ([] : List Keyword).length + (if ([] : List Keyword).isEmpty then 0 else 1) < 30)) = true := by rfl)
    (hline : (apos.endLine == cpos.line) = true := by rfl) (hs : starEach (e :: es) X.env = (false, eval e X.env) :: starEach es X.env := by rfl) (hplain : (backTo cpos (starEach es X.env)).any (·.1) = false := by rfl) :
    SE X W (.Call (.Attribute o name apos) (e :: es) [] cpos) (mMtK T f mo ma) :=
  PE_imp (pe_bm pa slot hty hm ho ha hbase hfew hline hs hplain) fun σ H Q q => by
    obtain ⟨F, g, S, q⟩ := q
    refine ⟨F, g, S, Pst_bind Stp.refl q fun h v F1 H1 g1 S1 P1 P01 r1 q1 => kind_ok S1 r1 q1 fun ty q2 => ⟨ty, F1, g1, S1, Pst_bind P01 q2 fun hs vs F2 H2 g2 S2 P2 P02 r2 q3 => ?_⟩⟩
    exact fs_ok S2 P02 (.cons (HdR.mono P2.fg r1) r2) q3
def fSplit : D → List D → Option D
  | .str a, [.str b] => if b.length ≠ 0 ∧ a.length ≤ 1000000 then some (.lst ((Txt.split a b).map .str)) else none
  | _, _ => none
def fJoin : D → List D → Option D
  | .str a, [.lst xs] => match strsOf xs with
    | some ys => if (ys.map (·.length)).sum + ys.length * a.length ≤ 1000000 then some (.str (Txt.join a ys)) else none
    | none => none
  | _, _ => none
theorem mtD {r r' : V → List V → Hp → VK → Prop} (hc : MtR X bid r) (k : ∀ x xs H Q, r' x xs H Q → r x xs H Q) : MtR X bid r' := fun pins s σ H x xs v us Q I rx rv h => hc pins s σ H x xs v us Q I rx rv (k x xs H Q h)
theorem rovs_cons {K : Frag} {x : V} {xs : List V} {ds : List D} (r : RoVs K F H (x :: xs) ds) : ∃ d es, ds = d :: es ∧ RoV K F H x d ∧ RoVs K F H xs es := by
  cases r with
  | cons a b => exact ⟨_, _, rfl, a, b⟩
theorem mw_split : MtR X "str.split" (rDm X.K fSplit) := by
  refine mtD mt_split fun x xs H Q ⟨F, ds, z, s, r, h, q⟩ => ?_
  obtain ⟨d, es, rfl, r0, rs⟩ := rovs_cons r
  cases d with
  | str a =>
    have h : fSplit (.str a) es = some z := h
    obtain ⟨b, rfl⟩ := one_arg (f := fSplit (.str a)) h rfl fun a b r => by cases a <;> rfl
    obtain ⟨y, rfl, r1⟩ := rovs1 rs
    cases b with
    | str b =>
      simp only [fSplit] at h
      by_cases c : b.length ≠ 0 ∧ a.length ≤ 1000000
      · rw [if_pos c] at h; cases h
        cases r0.str; cases r1.str
        refine ⟨a, b, rfl, rfl, by simpa using c.1, Nat.le_trans (Nat.add_le_add_right c.2 2) (by decide), fun t nt => ?_⟩
        obtain ⟨A', r'⟩ := al_lst (X := X) s nt (Reps.ofStrs (Txt.split a b))
        exact q _ _ _ A' r'
      · rw [if_neg c] at h; cases h
    | _ => cases h
  | _ => cases h
theorem mw_join : MtR X "str.join" (rDm X.K fJoin) := by
  refine mtD mt_join fun x xs H Q ⟨F, ds, z, s, r, h, q⟩ => ?_
  obtain ⟨d, es, rfl, r0, rs⟩ := rovs_cons r
  cases d with
  | str a =>
    have h : fJoin (.str a) es = some z := h
    obtain ⟨b, rfl⟩ := one_arg (f := fJoin (.str a)) h rfl fun a b r => by cases a <;> rfl
    obtain ⟨y, rfl, r1⟩ := rovs1 rs
    cases b with
    | lst b =>
      simp only [fJoin] at h
      cases o : strsOf b with
      | none => rw [o] at h; cases h
      | some ys =>
        rw [o] at h
        have h : (if (ys.map (·.length)).sum + ys.length * a.length ≤ 1000000 then some (D.str (Txt.join a ys)) else none) = some z := h
        by_cases c : (ys.map (·.length)).sum + ys.length * a.length ≤ 1000000
        · rw [if_pos c] at h; cases h
          cases r0.str
          obtain ⟨p, vs, rfl, k1, k2⟩ := r1.lst s
          rw [strsOf_ok o] at k2
          exact ⟨a, p, ys, rfl, rfl, .inl (.inl (.inl (by rw [← k2.strs]; exact k1))), Nat.le_trans c (by decide), q _ F H (Al.refl s) (.str _)⟩
        · rw [if_neg c] at h; cases h
    | _ => cases h
  | _ => cases h
def dFmt : D → Option D
  | .str y => if y.length ≤ 1000000 then some (.str y) else none
  | .int i => if i.natAbs < 2 ^ 64 then some (.str (toString i : String)) else none
  | _ => none
theorem se_fmt (he : SO X W e mo) : SE X W (.FormattedValue e (-1) none pos) (mOp1 dFmt mo) := PE_imp (pe_fmt he) fun σ H Q q => by
  obtain ⟨F, g, S, q⟩ := q
  refine ⟨F, g, S, Pst_bind Stp.refl q fun h v F1 H1 g1 S1 P1 P01 r1 q1 => ?_⟩
  obtain ⟨F4, d, z, sb, r, hz, k⟩ := f1_ok S1 P01 r1 q1
  cases d with
  | str y =>
    simp only [dFmt] at hz
    by_cases c : y.length ≤ 1000000
    · rw [if_pos c] at hz; cases hz; cases r.str
      exact .inl ⟨y, rfl, line_le c, k _ F4 H1 (Al.refl sb) (.str _)⟩
    · rw [if_neg c] at hz; cases hz
  | int i =>
    simp only [dFmt] at hz
    by_cases c : i.natAbs < 2 ^ 64
    · rw [if_pos c] at hz; cases hz; cases r.int
      exact .inr ⟨i, rfl, log64 c, k _ F4 H1 (Al.refl sb) (.str _)⟩
    · rw [if_neg c] at hz; cases hz
  | _ => cases hz
def mJ : List (M D) → Str → M D
  | [], acc => M.ret (.str acc)
  | m :: ms, acc => m.bind fun d => match d with
    | .str y => if (acc ++ y).length ≤ 1000000 then mJ ms (acc ++ y) else M.fail
    | _ => M.fail
def SJ (X : Cx) (W : WX) (es : List Expr) (ms : List (M D)) : Prop := PJ X es (ms.map fun m => tG X.K W (relE X.K) m)
theorem sj_nil : SJ X W [] [] := .nil
theorem sj_cons {m : M D} {ms : List (M D)} (h : SE X W e m) (r : SJ X W es ms) : SJ X W (e :: es) (m :: ms) := .cons h r
theorem js_ok {Q : V → Hp → Prop} : ∀ {ms : List (M D)} {acc : Str} {F H F0 H0 : Hp} {g g0 : Gm}, Sta X.K F g σ H → Stp F0 H0 g0 σ F H g σ → Pst X.K W σ (relE X.K) F0 H0 g0 Q (mJ ms acc g) → tJs (ms.map fun m => tG X.K W (relE X.K) m) acc σ H (fun z H' => Q (.str z) H')
  | [], acc, F, H, _, _, g, _, S, P, q => q _ F H S P (.str _)
  | m :: ms, acc, F, H, F0, H0, g, g0, S, P, q => ⟨F, g, S, Pst_bind P q fun d v F1 H1 g1 S1 P1 P01 r1 q1 => by
      have r1 : Rep X.K F1 v d := r1
      cases d with
      | str y =>
        have q1 : Pst X.K W σ (relE X.K) F0 H0 g0 Q ((if (acc ++ y).length ≤ 1000000 then mJ ms (acc ++ y) else M.fail) g1) := q1
        by_cases c : (acc ++ y).length ≤ 1000000
        · rw [if_pos c] at q1; cases r1
          exact ⟨y, rfl, line_le c, js_ok S1 P01 q1⟩
        · rw [if_neg c] at q1; exact q1.elim
      | _ => exact q1.elim⟩
theorem se_joined {v1 v2 : Expr} {rest : List Expr} {ms : List (M D)} (h : SJ X W (v1 :: v2 :: rest) ms) : SE X W (.JoinedStr (v1 :: v2 :: rest) pos) (mJ ms Str.empty) := PE_imp (pe_joined h) fun σ H Q q => by
  obtain ⟨F, g, S, q⟩ := q
  exact js_ok S Stp.refl q
/-- cs: the classes that are known to the frame -/
def dIsi (cs : List Nat) (T : Ty) : D → Option D
  | .scr _ => none
  | .glo _ => none
  | .ktp _ => none
  | .lam _ _ _ _ => none
  | .ixt _ => none
  | .ins c fs => if c ∈ cs then some (.bl (isTy T (.ins c fs))) else none
  | d => some (.bl (isTy T d))
/-- what isinstance asks of an own class -/
structure InsC (K : Frag) (c : Nat) : Prop where
  cl : Cls K (ca K c)
  ha : PySem.W.findIn K (.ref (ca K c)) "__class__" = some (some (.builtin "object.__class__"))
  hn : PySem.W.specialIn K (.builtin "object.__class__") "__get__" = some (some (.builtin "getset_descriptor.__get__"))
  htk : PySem.W.takesIn K (.builtin "object.__class__") = some true
  hm : PySem.W.mroIn K (ca K c) (.type "object") = some true
/-- the answers of the frame for one class T -/
structure KitOk (K : Frag) (cs : List Nat) (T : Ty) : Prop where
  non : PySem.W.kitOne K (.type "NoneType") (T.val K) = some false
  bl : PySem.W.kitOne K (.type "bool") (T.val K) = some (isTy T (.bl true))
  int : PySem.W.kitOne K (.type "int") (T.val K) = some (isTy T (.int 0))
  str : PySem.W.kitOne K (.type "str") (T.val K) = some (isTy T (.str Str.empty))
  tup : PySem.W.kitOne K (.type "tuple") (T.val K) = some (isTy T (.tup []))
  lst : PySem.W.kitOne K (.type "list") (T.val K) = some (isTy T (.lst []))
  dic : PySem.W.kitOne K (.type "dict") (T.val K) = some (isTy T (.dik []))
  ins : ∀ c ∈ cs, InsC K c ∧ PySem.W.kitOne K (.ref (ca K c)) (T.val K) = some (isTy T (.ins c []))
theorem rov_isi {cs : List Nat} {T : Ty} {v : V} {d z : D} (kit : KitOk X.K cs T) (s : Sub F H) (r : RoV X.K F H v d) (h : dIsi cs T d = some z) : ∃ t b, z = .bl b ∧ TyX X.K H v t ∧ PySem.W.kitOne X.K t (T.val X.K) = some b := by
  have tupT : ∀ {a : Addr} {vs : List V}, SqT X.K H a vs → TyX X.K H (.ref a) (.type "tuple") := fun {a vs} h => by
    rcases h with (h | ⟨o, h⟩) | ⟨o, its, n, h1, h2, _⟩
    · exact .base (.tup h)
    · exact .fTuple h
    · exact .kTuple h1 h2
  cases d with
  | non => cases h; cases r.non; exact ⟨_, _, rfl, .base .non, by rw [kit.non]; cases T <;> rfl⟩
  | bl b => cases h; cases r.bl; exact ⟨_, _, rfl, .base (.bl b), by rw [kit.bl]; cases T <;> rfl⟩
  | int i => cases h; cases r.int; exact ⟨_, _, rfl, .base (.int i), by rw [kit.int]; cases T <;> rfl⟩
  | str x => cases h; cases r.str; exact ⟨_, _, rfl, .base (.str x), by rw [kit.str]; cases T <;> rfl⟩
  | tup xs =>
    cases h
    obtain ⟨p, vs, rfl, k1, k2, _⟩ := r.tup s
    exact ⟨_, _, rfl, tupT k1, by rw [kit.tup]; cases T <;> rfl⟩
  | lst xs =>
    cases h
    obtain ⟨p, vs, rfl, k1, k2⟩ := r.lst s
    exact ⟨_, _, rfl, .base (.lst k1), by rw [kit.lst]; cases T <;> rfl⟩
  | dik xs =>
    cases h
    have : ∃ a kvs, v = .ref a ∧ H a = some (.dK kvs) := by
      rcases r with r | ⟨a, rfl, ⟨kv, h, _⟩, _⟩
      · cases r with
        | dik h _ _ => exact ⟨_, _, rfl, s _ _ h⟩
      · exact ⟨_, _, rfl, h⟩
    obtain ⟨a, kvs, rfl, e⟩ := this
    exact ⟨_, _, rfl, .base (.dK e), by rw [kit.dic]; cases T <;> rfl⟩
  | dit xs =>
    cases h
    have : ∃ a kvs, v = .ref a ∧ H a = some (.dT kvs) := by
      rcases r with r | ⟨a, rfl, ⟨kv, h, _⟩, _⟩
      · cases r with
        | dit h _ _ => exact ⟨_, _, rfl, s _ _ h⟩
      · exact ⟨_, _, rfl, h⟩
    obtain ⟨a, kvs, rfl, e⟩ := this
    exact ⟨_, _, rfl, .base (.dT e), by rw [kit.dic]; cases T <;> rfl⟩
  | ins c fs =>
    simp only [dIsi] at h
    by_cases hc : c ∈ cs
    · rw [if_pos hc] at h; cases h
      obtain ⟨ic, ik⟩ := kit.ins c hc
      have : ∃ a dx fv, v = .ref a ∧ H a = some (.ins (ca X.K c) dx fv) := by
        rcases r with r | ⟨a, rfl, ⟨dx, fv, h, _⟩, _⟩
        · cases r with
          | ins h _ _ _ => exact ⟨_, _, _, rfl, s _ _ h⟩
        · exact ⟨_, _, _, rfl, h⟩
      obtain ⟨a, dx, fv, rfl, e⟩ := this
      exact ⟨_, _, rfl, .base (.ins e ic.cl ic.ha ic.hn ic.htk ic.hm), by rw [ik]; cases T <;> rfl⟩
    · rw [if_neg hc] at h; cases h
  | scr _ => cases h
  | glo _ => cases h
  | ktp _ => cases h
  | lam _ _ _ _ => cases h
  | ixt _ => cases h
def mIsi (cs : List Nat) (T : Ty) (mo : M Hd) : M D := mo.bind (mF1 (dIsi cs T))
/-- isinstance(e, T), T a name: te its reading -/
theorem se_isi {cs : List Nat} {T : Ty} {p pos : Pos} {te : Expr} (hg : Gl X "isinstance") (hm : X.mg "isinstance" = none) (kit : KitOk X.K cs T) (he : SO X W e mo) (ht : PE X te (tC (T.v X.K))) (hst : starEach (e :: [te]) X.env = (false, eval e X.env) :: starEach [te] X.env := by rfl)
    (hst2 : starEach [te] X.env = (false, eval te X.env) :: starEach [] X.env := by rfl) (hpl : (backTo pos (starEach [te] X.env)).any (·.1) = false := by rfl) : SE X W (.Call (.Name "isinstance" p) [e, te] [] pos) (mIsi cs T mo) :=
  PE_imp (pe_callB call_isi hg hm (by decide +kernel) (pa_cons he (pa_cons ht pa_nil hst2) hst) (by decide) (by decide) hst hpl) fun σ H Q q => by
    obtain ⟨F, g, S, q⟩ := q
    refine ⟨F, g, S, Pst_bind Stp.refl q fun h v F1 H1 g1 S1 P1 P01 r1 q1 => ?_⟩
    obtain ⟨F4, d, z, sb, r, hz, k⟩ := f1_ok S1 P01 r1 q1
    obtain ⟨t, b, rfl, ty, ko⟩ := rov_isi kit sb r hz
    refine ⟨v, T.v X.K, t, T.val X.K, b, rfl, ?_, ty, ko, k _ F4 H1 (Al.refl sb) (.bl b)⟩
    cases T with
    | cls c => exact .own _
    | _ => exact .ty _
end
end Cq

set_option Elab.async false
set_option linter.all false
set_option maxRecDepth 100000
namespace Cq
open PySem PySem.Spec PyProof.Rows L2
section
variable {X : Cx} {W : WX} {pos : Pos} {σ : L2.St} {F H F0 H0 : Hp} {g g0 : Gm} {e tg : Expr} {mo : M Hd}
theorem PI_imp {wi wi' : TI} (h : PI X tg e wi) (k : ∀ σ H R, wi' σ H R → wi σ H R) : PI X tg e wi' := ⟨fun pins s σ H R I q => h.run pins s σ H R I (k σ H R q)⟩
def strD (x : Str) : List D := x.cps.toList.map fun c => .str ⟨#[c]⟩
def itD : D → Option (List D)
  | .tup xs => some xs
  | .lst xs => some xs
  | .scr ns => some (ns.map .int)
  | .str x => some (strD x)
  | _ => none
def iSeq (K : PySem.W.Frag) (te : TE) : TI := fun σ H R => te σ H fun v H1 => (∃ x, v = .str x ∧ R (Its x) H1) ∨ (∃ a, v = .ref a ∧ (∃ xs, SqL K H1 a xs) ∧ R (Itl K a) H1) ∨ ∃ a, v = .ref a ∧ (∃ xs, SqT K H1 a xs) ∧ R (Itt K a) H1
theorem pi_seq {te : TE} (he : PE X e te) : PI X tg e (iSeq X.K te) := by
  refine ⟨fun pins s σ H R I h => ?_⟩
  refine thn (he.run pins s σ H _ I h) fun v s1 ⟨y, H1, I1, r1, h1⟩ => ?_
  rcases h1 with ⟨x, rfl, q⟩ | ⟨a, rfl, ⟨xs, hq⟩, q⟩ | ⟨a, rfl, ⟨xs, hq⟩, q⟩
  · obtain ⟨t, rfl⟩ := r1
    cases ha : x.cps.all (· < 128)
    · exact wpAny_pyIter_wide ha (pi_one (tk := s1.toks) I1 _ (turn_str _ x t "str_iterator" (.inr rfl)) ⟨_, Heap.get?_push_size _ rfl, rfl, rfl⟩ q)
    · exact wpAny_pyIter_ascii ha (pi_one (tk := s1.toks) I1 _ (turn_str _ x t "str_ascii_iterator" (.inl rfl)) ⟨_, Heap.get?_push_size _ rfl, rfl, rfl⟩ q)
  · cases r1
    obtain ⟨its, rv, p, hz⟩ := I1.list hq
    exact wpAny_pyIter_list p.isList (pi_one (tk := s1.toks) I1 _ (turn_list a _) ⟨_, Heap.get?_push_size _ rfl, rfl, rfl⟩ q)
  · cases r1
    obtain ⟨its, rv, p, hz⟩ := I1.tuple hq
    exact wpAny_pyIter_tuple (show s1.heap.IsTuple a its.toArray from p) (pi_one (tk := s1.toks) I1 _ (turn_tuple a _) ⟨_, Heap.get?_push_size _ rfl, rfl, rfl⟩ q)
theorem items_list {K : Frag} {L : Hp → Prop} {a : Addr} {vs : List V} {ds : List D} (h : ∀ H, Sub F H → L H → SqL K H a vs) (r : Reps K F vs ds) : Items K F L (Itl K a) ds where
  go := fun i H s l lt => ⟨vs, vs[i]'(by rw [r.length]; exact lt), h H s l, List.getElem?_eq_getElem _⟩
  stop := fun i H s l le => ⟨vs, h H s l, by rw [r.length]; exact le⟩
  yld := fun i H x H' F1 d s s1 l y e => by
    obtain ⟨rfl, y⟩ := y
    exact ⟨F1, Al.refl s1, (Reps.get r (y vs (h H' (s.trans s1) l)) e).mono s⟩
theorem items_tup {K : Frag} {L : Hp → Prop} {a : Addr} {vs : List V} {ds : List D} (h : SqT K F a vs) (r : Reps K F vs ds) : Items K F L (Itt K a) ds where
  go := fun i H s l lt => ⟨vs, vs[i]'(by rw [r.length]; exact lt), s.tup h, List.getElem?_eq_getElem _⟩
  stop := fun i H s l le => ⟨vs, s.tup h, by rw [r.length]; exact le⟩
  yld := fun i H x H' F1 d s s1 l y e => by
    obtain ⟨rfl, y⟩ := y
    exact ⟨F1, Al.refl s1, (Reps.get r (y vs ((s.trans s1).tup h)) e).mono s⟩
theorem items_str {K : Frag} {L : Hp → Prop} (x : Str) : Items K F L (Its x) (strD x) where
  go := fun i H s l lt => show i < x.cps.size by simpa [strD] using lt
  stop := fun i H s l le => show x.cps.size ≤ i by simpa [strD] using le
  yld := fun i H v H' F1 d s s1 l y e => by
    obtain ⟨rfl, c, hc, rfl⟩ := y
    have : d = .str ⟨#[c]⟩ := by
      unfold strD at e
      rw [List.getElem?_map, Array.getElem?_toList, hc] at e
      exact (Option.some.inj e).symm
    subst this
    exact ⟨F1, Al.refl s1, .str _⟩
theorem items_rng {K : Frag} {L : Hp → Prop} (lo : Int) (n : Nat) : Items K F L (Itr lo n) ((List.range n).map fun (i : Nat) => D.int (lo + (i : Int))) where
  go := fun i H s l lt => show i < n by simpa using lt
  stop := fun i H s l le => show n ≤ i by simpa using le
  yld := fun i H v H' F1 d s s1 l y e => by
    obtain ⟨rfl, rfl⟩ := y
    have lt : i < n := by
      have := (List.getElem?_eq_some_iff.mp e).1
      simpa using this
    rw [List.getElem?_map, List.getElem?_range lt] at e
    cases e
    exact ⟨F1, Al.refl s1, .int _⟩
theorem reps_ints {K : Frag} : ∀ ns : List Int, Reps K F (ns.map V.int) (ns.map D.int)
  | [] => .nil
  | n :: ns => .cons (.int n) (reps_ints ns)
/-- a frozen value that is walked -/
theorem it_rep {K : Frag} {v : V} {d : D} {ds : List D} {L : Hp → Prop} {R : It → Hp → Prop} {H1 : Hp} (sb : Sub F H1) (r : Rep K F v d) (h : itD d = some ds) (k : ∀ J, Items K F L J ds → R J H1) :
    (∃ x, v = .str x ∧ R (Its x) H1) ∨ (∃ a, v = .ref a ∧ (∃ xs, SqL K H1 a xs) ∧ R (Itl K a) H1) ∨ ∃ a, v = .ref a ∧ (∃ xs, SqT K H1 a xs) ∧ R (Itt K a) H1 := by
  cases r with
  | str x => cases h; exact .inl ⟨x, rfl, k _ (items_str x)⟩
  | lst e r => cases h; exact .inr (.inl ⟨_, rfl, ⟨_, .inl (.inl (sb _ _ e))⟩, k _ (items_list (fun H s _ => .inl (.inl (s _ _ e))) r)⟩)
  | tup e r => cases h; exact .inr (.inr ⟨_, rfl, ⟨_, sb.tup e⟩, k _ (items_tup e r)⟩)
  | scr e => cases h; exact .inr (.inl ⟨_, rfl, ⟨_, sb.seq e⟩, k _ (items_list (fun H s _ => s.seq e) (reps_ints _))⟩)
  | _ => cases h
def mIt (m : M D) : M (List D) := m.bind fun d => fun g => match itD d with
  | some ds => some (.ok ds g)
  | none => none
theorem si_val {m : M D} (he : SE X W e m) : SI X W none tg e (mIt m) := PI_imp (pi_seq he) fun σ H R q => by
  obtain ⟨F, g, S, q⟩ := q
  refine ⟨F, g, S, Pst_bind Stp.refl q fun d v F1 H1 g1 S1 P1 P01 r1 q1 => ?_⟩
  cases o : itD d with
  | none => simp only [o] at q1; exact q1.elim
  | some ds =>
    simp only [o] at q1
    exact it_rep (L := fun _ => True) S1.sub r1 o fun J it => q1 J F1 H1 S1 P01 ⟨_, it, trivial, fun _ _ _ _ _ => trivial, fun i d h => nomatch h⟩
/-- a name that is walked -/
def mItN (i : Nat) : M (List D) := fun g => match (Hd.nm i).rd g with
  | some d => (match itD d with
    | some ds => some (.ok ds g)
    | none => none)
  | none => none
theorem si_nm {x : Str} (i : Nat) (hN : X.N[i]? = some x) (hv : Vis X.env.scope x) (hd : (x == ("__debug__" : Str)) = false := by decide) (hcd : (x == ("__classdict__" : Str)) = false := by decide) : SI X W (some i) tg (.Name x pos) (mItN i) :=
  PI_imp (pi_seq (pe_var hN hv hd hcd)) fun σ H R q => by
  obtain ⟨F, g, S, q⟩ := q
  unfold mItN at q
  cases o1 : (Hd.nm i).rd g with
  | none => simp only [o1] at q; exact q.elim
  | some d =>
    cases o : itD d with
    | none => simp only [o1, o] at q; exact q.elim
    | some ds =>
      simp only [o1, o] at q
      -- the value and the lending
      have fl : ∀ j dj, some i = some j → (g[j]?).bind Sl.cell = some dj → dj.flat = true := fun j dj e c => by
        cases e
        cases q1 : g[i]? with
        | none => rw [q1] at c; cases c
        | some s =>
          rw [q1] at c
          simp only [Hd.rd, q1] at o1
          cases s with
          | ow d' =>
            have c : some d' = some dj := c
            cases c
            by_cases f : dj.flat = true
            · exact f
            · have o1 : (if dj.flat = true then some dj else none) = some d := o1
              rw [if_neg f] at o1; cases o1
          | mb d' =>
            have c : some d' = some dj := c
            cases c
            by_cases f : dj.flat = true
            · exact f
            · have o1 : (if dj.flat = true then some dj else none) = some d := o1
              rw [if_neg f] at o1; cases o1
          | _ => cases c
      have S2 := lend_sta S fl
      have key : ∃ v, σ[i]? = some (some v) ∧ (Rep X.K F v d ∨ ∃ a, v = .ref a ∧ F a = none ∧ ¬ Own (lendOut (some i) g) σ H a ∧ Cell X.K F H a d) := by
        have ro : (lendOut (some i) g)[i]? = some (.ro d) → ∃ v, σ[i]? = some (some v) ∧ (Rep X.K F v d ∨ ∃ a, v = .ref a ∧ F a = none ∧ ¬ Own (lendOut (some i) g) σ H a ∧ Cell X.K F H a d) := fun hq => by
          obtain ⟨v, e1, rv⟩ := S2.slot i _ hq
          refine ⟨v, e1, ?_⟩
          rcases rv with rv | ⟨a, rfl, c, fa⟩
          · exact .inl rv
          · rcases S2.ro i d a hq e1 with z | z
            · exact .inl z
            · cases ef : F a with
              | none => exact .inr ⟨a, rfl, ef, z, c⟩
              | some u =>
                refine .inl ?_
                have hu := S.sub _ _ ef
                cases d with
                | lst xs => obtain ⟨vs, h1, h2⟩ := c; rw [h1] at hu; cases hu; exact .lst ef h2
                | tup xs => exact c.elim
                | str xs => exact c.elim
                | scr xs => exact c.elim
                | _ => cases o
        cases q1 : g[i]? with
        | none => simp only [Hd.rd, q1] at o1; cases o1
        | some s =>
          have hl : i < g.length := (List.getElem?_eq_some_iff.mp q1).1
          have o1' := o1
          simp only [Hd.rd, q1] at o1'
          cases s with
          | un => cases o1'
          | im d' => cases o1'; obtain ⟨v, e1, r⟩ := S.slot i _ q1; exact ⟨v, e1, .inl r⟩
          | ro d' => cases o1'; exact ro (by simp [lendOut, q1])
          | ow d' =>
            have o1' : (if d'.flat = true then some d' else none) = some d := o1'
            by_cases f : d'.flat = true
            · rw [if_pos f] at o1'; cases o1'; exact ro (by simp [lendOut, q1, List.getElem?_set_self hl])
            · rw [if_neg f] at o1'; cases o1'
          | mb d' =>
            have o1' : (if d'.flat = true then some d' else none) = some d := o1'
            by_cases f : d'.flat = true
            · rw [if_pos f] at o1'; cases o1'; exact ro (by simp [lendOut, q1, List.getElem?_set_self hl])
            · rw [if_neg f] at o1'; cases o1'
      obtain ⟨v, e1, key⟩ := key
      refine ⟨v, e1, ?_⟩
      rcases key with r | ⟨a, rfl, fn, no, c⟩
      · exact it_rep (L := fun _ => True) S.sub r o fun J it => q J F H S Stp.refl ⟨_, it, trivial, fun _ _ _ _ _ => trivial, fl⟩
      · cases d with
        | lst xs =>
          cases o
          obtain ⟨vs, h1, h2⟩ := c
          exact .inr (.inl ⟨a, rfl, ⟨vs, .inl (.inl h1)⟩, q _ F H S Stp.refl ⟨fun H' => H' a = some (.lst vs), items_list (fun H' _ l => .inl (.inl l)) h2, h1, fun F2 H2 σ2 g2 P => (P.fr a _ h1 (fun _ z => nomatch z) (fun _ => fn) no).1, fl⟩⟩)
        | tup xs => exact c.elim
        | str xs => exact c.elim
        | scr xs => exact c.elim
        | _ => cases o
def rngD (lo : Int) (n : Nat) : List D := (List.range n).map fun (i : Nat) => D.int (lo + (i : Int))
def rng1 : List D → Option (List D)
  | [.int j] => if -(2 ^ 62) ≤ j ∧ j < 2 ^ 62 then some (rngD 0 j.toNat) else none
  | _ => none
def mSrc (f : List D → Option (List D)) (ma : M (List Hd)) : M (List D) := ma.bind fun hs => fun g => match rdAll g hs with
  | some ds => (match f ds with
    | some xs => some (.ok xs g)
    | none => none)
  | none => none
theorem src_ok {α : Type} {f : List D → Option (List D)} {σ0 : L2.St} {rel : Rl (List D) α} {R : α → Hp → Prop} {hs : List Hd} {vs : List V} (S : Sta X.K F g σ H) (r : HdsR X.K F σ hs vs) (q : Pst X.K W σ0 rel F0 H0 g0 R ((fun g => match rdAll g hs with
  | some ds => (match f ds with
    | some xs => some (.ok xs g)
    | none => none)
  | none => none : Gm → Option (Res (List D))) g)) : ∃ ds xs, RoVs X.K F H vs ds ∧ f ds = some xs ∧ Pst X.K W σ0 rel F0 H0 g0 R (some (.ok xs g)) := by
  cases o1 : rdAll g hs with
  | none => simp only [o1] at q; exact q.elim
  | some ds =>
    cases o : f ds with
    | none => simp only [o1, o] at q; exact q.elim
    | some xs =>
      simp only [o1, o] at q
      exact ⟨ds, xs, HdsR.rov S r o1, o, q⟩
theorem si_range1 {a : Expr} {ma : M (List Hd)} {p : Pos} (hg : Gl X "range") (hm : X.mg "range" = none) (ha : SA X W [a] ma) (hs : starEach [a] X.env = [(false, eval a X.env)] := by rfl) : SI X W none tg (.Call (.Name "range" p) [a] [] pos) (mSrc rng1 ma) :=
  PI_imp (pi_range1 hg hm ha hs) fun σ H R q => by
  obtain ⟨F, g, S, q⟩ := q
  refine ⟨F, g, S, Pst_bind Stp.refl q fun hs vs F1 H1 g1 S1 P1 P01 r1 q1 => ?_⟩
  obtain ⟨ds, xs, rv, o, q2⟩ := src_ok S1 r1 q1
  obtain ⟨d, rfl⟩ := one_arg (f := rng1) o rfl fun a b r => by cases a <;> rfl
  obtain ⟨v, rfl, k0⟩ := rovs1 rv
  cases d with
  | int j =>
    simp only [rng1] at o
    by_cases c : -(2 ^ 62) ≤ j ∧ j < 2 ^ 62
    · rw [if_pos c] at o; cases o
      cases k0.int
      exact ⟨j, rfl, c.1, c.2, q2 _ F1 H1 S1 P01 ⟨fun _ => True, items_rng _ _, trivial, fun _ _ _ _ _ => trivial, fun i d h => nomatch h⟩⟩
    · rw [if_neg c] at o; cases o
  | _ => cases o
end
end Cq

set_option Elab.async false
set_option linter.all false
set_option maxRecDepth 100000
namespace Cq
open PySem PySem.Spec PyProof.Rows L2
section
variable {X : Cx} {W : WX} {pos : Pos} {σ : L2.St} {F H F0 H0 : Hp} {g g0 : Gm} {e tg : Expr} {mo : M Hd}
theorem takes0 : Takes X W0 := fun u s' ⟨a, B, sI, pins, σ, H, cls, d, e, I, nb, up, sky, na, os, ag, w⟩ => w.elim
theorem sn_lc {elt iter : Expr} {ifs : List Expr} {scope : Scope} {own : List (Str × Nat)} {l : Option Nat} {it : M (List D)} {T : Tgt} {c : M Bool} {ee : M D} (hc : X.calm = true) (hN : X.N.Nodup) (hi : SI X W l tg iter it) (ok : BlkOk X.N X.env.scope scope own)
    (hg : ∀ (s : Shared) (H : Hp) (C : Addr) (cl : List (Str × Addr)) (fp : List Addr), SG (X.blk s H scope (compEnvC scope cl C X.env) fp) tg (own.map (·.2)) T)
    (ht : ∀ (s : Shared) (H : Hp) (C : Addr) (cl : List (Str × Addr)) (fp : List Addr), STs (X.blk s H scope (compEnvC scope cl C X.env) fp) ifs c)
    (he : ∀ (s : Shared) (H : Hp) (C : Addr) (cl : List (Str × Addr)) (fp : List Addr), SE (X.blk s H scope (compEnvC scope cl C X.env) fp) W0 elt ee) (hs : ∀ x, foldedSetIterable iter X.env x = pure x := by intro _; rfl) :
    SN X W (.ListComp elt [⟨tg, iter, ifs, 0⟩] scope pos) (mLc l it (own.map (·.2)) T c ee) :=
  PE_imp (pe_lc (g := tTg X.K (own.map fun p : Str × Nat => p.2) T) (tt := tG X.K W0 relB c) (te := tG X.K W0 (relE X.K) ee) hc hN hi ok hg ht he hs) fun σ H Q q => lc_reads q
theorem ss_setLc {i : Nat} {y : Str} {py spos : Pos} {elt iter : Expr} {ifs : List Expr} {scope : Scope} {own : List (Str × Nat)} {l : Option Nat} {it : M (List D)} {T : Tgt} {c : M Bool} {ee : M D} (hc : X.calm = true) (hN : X.N.Nodup) (hy : X.N[i]? = some y) (hyl : X.env.scope.names.lookup y = some .local)
    (hsw : swapsWith (.ListComp elt [⟨tg, iter, ifs, 0⟩] scope pos) (some (.Name y py)) spos.line X.env = pure true) (hi : SI X W l tg iter it) (ok : BlkOk X.N X.env.scope scope own)
    (hg : ∀ (s : Shared) (H : Hp) (C : Addr) (cl : List (Str × Addr)) (fp : List Addr), SG (X.blk s H scope (compEnvC scope cl C X.env) fp) tg (own.map (·.2)) T)
    (ht : ∀ (s : Shared) (H : Hp) (C : Addr) (cl : List (Str × Addr)) (fp : List Addr), STs (X.blk s H scope (compEnvC scope cl C X.env) fp) ifs c)
    (he : ∀ (s : Shared) (H : Hp) (C : Addr) (cl : List (Str × Addr)) (fp : List Addr), SE (X.blk s H scope (compEnvC scope cl C X.env) fp) W0 elt ee) (hs : ∀ x, foldedSetIterable iter X.env x = pure x := by intro _; rfl) :
    SS X W (.Assign [.Name y py] (.ListComp elt [⟨tg, iter, ifs, 0⟩] scope pos) spos) (mSetN i (mLc l it (own.map (·.2)) T c ee)) := PS_imp (ps_setLc (g := tTg X.K (own.map fun p : Str × Nat => p.2) T) (tt := tG X.K W0 relB c) (te := tG X.K W0 (relE X.K) ee) hc hN hy hyl hsw hi ok hg ht he hs) fun E σ H q => lc_reads (tSetN_ok q)
theorem Sta.wr {K : Frag} {i : Nat} {s : Sl} {d d' : D} {a : Addr} {o' : HO} (S : Sta K F g σ H) (e : g[i]? = some s) (hc : s.cell = some d) (ha : σ[i]? = some (some (V.ref a)))
    (hcell : Cell K F (upd H a o') a d') (hf : ∀ x, Foot (upd H a o') a x → Foot H a x) (hki : ∀ C dx fv, H a = some (.ins C dx fv) → ∃ fv', o' = .ins C dx fv' ∧ ∀ x, (("past" : Str), V.ref x) ∈ fv → (("past" : Str), V.ref x) ∈ fv') :
    Sta K F (g.set i (s.put d')) σ (upd H a o') ∧ Stp F H g σ F (upd H a o') (g.set i (s.put d')) σ := by
  have cg : (g[i]?).bind Sl.cell = some d := by rw [e]; exact hc
  obtain ⟨a', e1, c, n⟩ := S.cell cg
  rw [ha] at e1; cases e1
  have nF : F a = none := n a (.inl rfl)
  have il : i < g.length := (List.getElem?_eq_some_iff.mp e).1
  have pc : (s.put d').cell = some d' := by cases s <;> first | rfl | cases hc
  have other : ∀ {j : Nat} {f : D} {b : Addr}, j ≠ i → (g[j]?).bind Sl.cell = some f → σ[j]? = some (some (V.ref b)) → b ≠ a ∧ ∀ x, Foot H b x → ¬ Foot H a x := fun {j f b} ji c1 e2 =>
    ⟨fun z => by subst z; exact S.inj j i f d b b b ji c1 cg e2 ha (.inl rfl) (.inl rfl), fun x f1 f2 => S.inj j i f d b a x ji c1 cg e2 ha f1 f2⟩
  have ft : ∀ {b x : Addr}, b ≠ a → Foot (upd H a o') b x → Foot H b x := fun {b x} h f => by
    rcases f with f | ⟨C, dx0, fv, z, qf⟩
    · exact .inl f
    · rw [upd_ne h] at z; exact .inr ⟨C, dx0, fv, z, qf⟩
  have ow : ∀ x, Own (g.set i (s.put d')) σ (upd H a o') x → Own g σ H x := fun x ⟨j, f, b, c1, e2, f1⟩ => by
    rcases gset_bind c1 with ⟨rfl, h⟩ | ⟨h1, h2⟩
    · rw [ha] at e2; cases e2; exact ⟨j, d, a, cg, ha, hf x f1⟩
    · exact ⟨j, f, b, h2, e2, ft (other h1 h2 e2).1 f1⟩
  have own_a : Own g σ H a := ⟨i, d, a, cg, ha, .inl rfl⟩
  refine ⟨⟨fun x o q => ?_, by simpa using S.len, fun j t q => ?_, fun j k dj dk b1 b2 x jk c1 c2 e1 e2 f1 f2 => ?_, fun j dj b e1 e2 => ?_, S.tb.upd (fun u e => by obtain ⟨a2, e2, k, _⟩ := S.cell cg; rw [ha] at e2; cases e2; exact k.dt (.inl rfl) e) fun _ _ z => z⟩, ⟨Sub.refl _, fun x h => ?_, fun x o h1 nb h2 h3 => ?_, fun x o => .inl (ow x o), fun j dj q => ?_, fun j dj q => ?_, fun b C dx fv h => ?_⟩⟩
  · have : x ≠ a := fun z => by subst z; rw [nF] at q; cases q
    rw [upd_ne this]; exact S.sub _ _ q
  · rcases set_get q with ⟨rfl, rfl⟩ | ⟨h1, h2⟩
    · have z : ∃ a1, σ[j]? = some (some (V.ref a1)) ∧ Cell K F (upd H a o') a1 d' ∧ ∀ x, Foot (upd H a o') a1 x → F x = none := ⟨a, ha, hcell, fun x f => n x (hf x f)⟩
      cases s <;> first | exact z | cases hc
    · have k := S.slot j t h2
      have cell : ∀ {f : D}, t.cell = some f → (∃ b, σ[j]? = some (some (V.ref b)) ∧ Cell K F H b f ∧ ∀ x, Foot H b x → F x = none) → ∃ b, σ[j]? = some (some (V.ref b)) ∧ Cell K F (upd H a o') b f ∧ ∀ x, Foot (upd H a o') b x → F x = none := fun {f} hf' ⟨b, e1, cb, nb⟩ => by
        obtain ⟨ba, ap⟩ := other h1 (f := f) (by rw [h2]; exact hf') e1
        exact ⟨b, e1, cb.same (Sub.refl _) fun x o fx hx => by rw [upd_ne fun z => ap x fx (by rw [z]; exact .inl rfl)]; exact hx, fun x fx => nb x (ft ba fx)⟩
      cases t with
      | un => trivial
      | im f => exact k
      | ro f =>
        obtain ⟨v, e1, r⟩ := k
        refine ⟨v, e1, ?_⟩
        rcases r with r | ⟨b, rfl, cb, fb⟩
        · exact .inl r
        · rcases S.ro j f b h2 e1 with r | r
          · exact .inl r
          · have ba : b ≠ a := fun z => by subst z; exact r own_a
            exact .inr ⟨b, rfl, cb.same (Sub.refl _) fun x o fx hx => by rw [upd_ne (by rw [fb x fx]; exact ba)]; exact hx, fun x fx => fb x (ft ba fx)⟩
      | ow f => exact cell rfl k
      | mb f => exact cell rfl k
  · have pr : ∀ {j : Nat} {dj : D} {b x : Addr}, ((g.set i (s.put d'))[j]?).bind Sl.cell = some dj → σ[j]? = some (some (V.ref b)) → Foot (upd H a o') b x → ∃ d0, (g[j]?).bind Sl.cell = some d0 ∧ Foot H b x := fun {j dj b x} c1 e2 f1 => by
      rcases gset_bind c1 with ⟨rfl, h⟩ | ⟨h1, h2⟩
      · rw [ha] at e2; cases e2; exact ⟨d, cg, hf x f1⟩
      · exact ⟨dj, h2, ft (other h1 h2 e2).1 f1⟩
    obtain ⟨d1, k1, k2⟩ := pr c1 e1 f1
    obtain ⟨d2, k3, k4⟩ := pr c2 e2 f2
    exact S.inj j k d1 d2 b1 b2 x jk k1 k3 e1 e2 k2 k4
  · rcases set_get e1 with ⟨rfl, z⟩ | ⟨h1, h2⟩
    · rw [← z] at pc; cases pc
    · exact (S.ro j dj b h2 e2).imp id fun r o => r (ow b o)
  · by_cases z : x = a
    · subst z; rw [upd_same]; exact fun q => nomatch q
    · rw [upd_ne z]; exact h
  · have z : x ≠ a := fun z => by subst z; exact h3 own_a
    rw [upd_ne z]; exact ⟨h1, h2⟩
  · rcases set_get q with ⟨rfl, z⟩ | ⟨h1, h2⟩
    · rw [← z] at pc; cases pc
    · exact ⟨h2, rfl⟩
  · rcases set_get q with ⟨rfl, z⟩ | ⟨h1, h2⟩
    · cases s with
      | mb f => exact ⟨⟨_, e⟩, rfl⟩
      | ow f => cases z
      | _ => cases hc
    · exact ⟨⟨_, h2⟩, rfl⟩
  · by_cases z : b = a
    · subst z
      obtain ⟨fv', w, kq⟩ := hki _ _ _ h
      exact ⟨fv', by rw [upd_same, w], kq⟩
    · exact ⟨fv, by rw [upd_ne z]; exact h, fun _ q => q⟩
/-- a write of a flat cell -/
def rC (K : Frag) (f : D → List D → Option (D × D)) : V → List V → Hp → VK → Prop := fun x xs H Q => ∃ F a d ds r d', Sub F H ∧ x = .ref a ∧ Cell K F H a d ∧ Reps K F xs ds ∧ f d ds = some (r, d') ∧
  ∀ v o', Cell K F (upd H a o') a d' → (∀ C dx fv, o' ≠ .ins C dx fv) → Rep K F v r → Q v (upd H a o')
def mWr (i : Nat) (f : D → List D → Option (D × D)) (ds : List D) : M D := fun g => match g[i]? with
  | some s => (match s.cell with
    | some d => (match d.flat, f d ds with
      | true, some (r, d') => some (.ok r (g.set i (s.put d')))
      | _, _ => none)
    | none => none)
  | none => none
theorem wr_ok {K : Frag} {i : Nat} {f : D → List D → Option (D × D)} {x : V} {xs : List V} {ds : List D} {Q : VK} (S : Sta X.K F g σ H) (P : Stp F0 H0 g0 σ F H g σ) (hx : σ[i]? = some (some x)) (r : Reps X.K F xs ds) (q : Pst X.K W σ (relE X.K) F0 H0 g0 Q (mWr i f ds g)) : rC X.K f x xs H Q := by
  unfold mWr at q
  cases e : g[i]? with
  | none => simp only [e] at q; exact q.elim
  | some s =>
    simp only [e] at q
    cases c : s.cell with
    | none => simp only [c] at q; exact q.elim
    | some d =>
      simp only [c] at q
      cases fl : d.flat with
      | false => simp only [fl] at q; exact q.elim
      | true =>
        cases o : f d ds with
        | none => simp only [fl, o] at q; exact q.elim
        | some p =>
          obtain ⟨y, d'⟩ := p
          simp only [fl, o] at q
          have cg : (g[i]?).bind Sl.cell = some d := by rw [e]; exact c
          obtain ⟨a, e1, k, n⟩ := S.cell cg
          rw [hx] at e1; cases e1
          refine ⟨F, a, d, ds, y, d', S.sub, rfl, k, r, o, fun v o' c' ni rv => ?_⟩
          obtain ⟨S2, P2⟩ := S.wr e c hx c' (fun z fz => .inl (foot_upd ni fz)) (fun C dx fv z => by
            have := flat_lst k (fun c' fs' z => by rw [z] at fl; cases fl) dx (.inr ⟨C, dx, fv, z, .inl rfl⟩)
            cases d with
            | lst xs => obtain ⟨vs, h1, _⟩ := k; rw [h1] at z; cases z
            | dik xs => obtain ⟨vs, h1, _⟩ := k; rw [h1] at z; cases z
            | dit xs => obtain ⟨vs, h1, _⟩ := k; rw [h1] at z; cases z
            | ins c' fs' => cases fl
            | _ => exact k.elim)
          exact q v F _ S2 (P.trans P2) rv
/-- x.name(args): x a slot -/
def isKindN (T : String) : D → Bool
  | .lst _ => T == "list"
  | .dik _ => T == "dict"
  | .dit _ => T == "dict"
  | _ => false
def mKindN (T : String) (i : Nat) : M Unit := fun g => match (Hd.nm i).rd g with
  | some d => if isKindN T d = true then some (.ok () g) else none
  | none => none
theorem rov_tyN {v : V} {d : D} {T : String} (s : Sub F H) (r : RoV X.K F H v d) (k : isKindN T d = true) : tyV X.K T v H := by
  cases d with
  | lst xs =>
    obtain ⟨p, vs, rfl, k1, k2⟩ := r.lst s
    exact .inl ⟨eq_of_beq (show (T == "list") = true from k), vs, .inl (.inl k1)⟩
  | dik xs =>
    have : ∃ a kvs, v = .ref a ∧ H a = some (.dK kvs) := by
      rcases r with r | ⟨a, rfl, ⟨kv, h, _⟩, _⟩
      · cases r with
        | dik h _ _ => exact ⟨_, _, rfl, s _ _ h⟩
      · exact ⟨_, _, rfl, h⟩
    obtain ⟨a, kvs, rfl, e⟩ := this
    exact .inr (.inr (.inl ⟨eq_of_beq (show (T == "dict") = true from k), .inl ⟨_, e⟩⟩))
  | dit xs =>
    have : ∃ a kvs, v = .ref a ∧ H a = some (.dT kvs) := by
      rcases r with r | ⟨a, rfl, ⟨kv, h, _⟩, _⟩
      · cases r with
        | dit h _ _ => exact ⟨_, _, rfl, s _ _ h⟩
      · exact ⟨_, _, rfl, h⟩
    obtain ⟨a, kvs, rfl, e⟩ := this
    exact .inr (.inr (.inl ⟨eq_of_beq (show (T == "dict") = true from k), .inr ⟨_, e⟩⟩))
  | _ => cases k
variable {o : Expr} {es : List Expr} {name x : Str} {apos cpos p : Pos} {T bid : String} {f : D → List D → Option (D × D)} {ma : M (List Hd)}
def mWm (T : String) (i : Nat) (f : D → List D → Option (D × D)) (ma : M (List Hd)) : M D := (mKindN T i).bind fun _ => ma.bind fun hs => (mFrzs hs).bind fun ds => mWr i f ds
theorem kindN_cases {T : String} {i : Nat} (S : Sta X.K F g σ H) : mKindN T i g = none ∨ (mKindN T i g = some (.ok () g) ∧ ∃ v, σ[i]? = some (some v) ∧ tyV X.K T v H) := by
  unfold mKindN
  cases e : (Hd.nm i).rd g with
  | none => exact .inl rfl
  | some d =>
    by_cases c : isKindN T d = true
    · have hv : ∃ v, σ[i]? = some (some v) := by
        cases q1 : g[i]? with
        | none => simp only [Hd.rd, q1] at e; cases e
        | some s =>
          have k := S.slot i s q1
          cases s with
          | un => simp only [Hd.rd, q1] at e; cases e
          | im d => obtain ⟨v, e1, _⟩ := k; exact ⟨v, e1⟩
          | ro d => obtain ⟨v, e1, _⟩ := k; exact ⟨v, e1⟩
          | ow d => obtain ⟨v, e1, _⟩ := k; exact ⟨_, e1⟩
          | mb d => obtain ⟨v, e1, _⟩ := k; exact ⟨_, e1⟩
      obtain ⟨v, hv⟩ := hv
      exact .inr ⟨by simp only [if_pos c], v, hv, rov_tyN S.sub (HdR.rov S (h := .nm i) hv e) c⟩
    · exact .inl (by simp only [if_neg c])
theorem kindN_ok {T : String} {i : Nat} {R : Prop} {γ δ : Type} {rel2 : Rl γ δ} {Q : δ → Hp → Prop} {k : Unit → M γ} (S : Sta X.K F g σ H) (q : Pst X.K W σ rel2 F0 H0 g0 Q (((mKindN T i).bind k) g)) (go : ∀ v, σ[i]? = some (some v) → tyV X.K T v H → Pst X.K W σ rel2 F0 H0 g0 Q (k () g) → R) : R := by
  unfold M.bind at q
  rcases kindN_cases (T := T) (i := i) S with h | ⟨h, v, hv, ty⟩
  · rw [h] at q; exact q.elim
  · rw [h] at q; exact go v hv ty q
theorem se_wm (i : Nat) (pa : PlainAttrs T) (slot : Slot T name bid) (hty : typeOf (.builtin bid) = pure (.type "method_descriptor")) (hm : MtR X bid (rC X.K f)) (hN : X.N[i]? = some x) (hv : Vis X.env.scope x) (ha : SA X W (e :: es) ma)
    (hd : (x == ("__debug__" : Str)) = false := by decide) (hcd : (x == ("__classdict__" : Str)) = false := by decide)
    (hbase : attributeBase (.Name x p) name X.env (eval (.Name x p) X.env) = eval (.Name x p) X.env := by rfl)
    (hfew : ((backTo cpos (starEach (e :: es) X.env)).all (fun x => !x.1) && (backToKw cpos (keywordEach [] X.env)).all (fun x => x.1.isSome)
      && decide ((e :: es).length + ([] : List Keyword).length + (if ([] : List Keyword).isEmpty then 0 else 1) < 30)) = true := by rfl)
    (hline : (apos.endLine == cpos.line) = true := by rfl) (hs : starEach (e :: es) X.env = (false, eval e X.env) :: starEach es X.env := by rfl) (hplain : (backTo cpos (starEach es X.env)).any (·.1) = false := by rfl) :
    SE X W (.Call (.Attribute (.Name x p) name apos) (e :: es) [] cpos) (mWm T i f ma) :=
  PE_imp (pe_bm pa slot hty hm (pe_var hN hv hd hcd) ha hbase hfew hline hs hplain) fun σ H Q q => by
    obtain ⟨F, g, S, q⟩ := q
    refine kindN_ok S q fun v hv ty q1 => ⟨v, hv, ty, F, g, S, Pst_bind Stp.refl q1 fun hs vs F1 H1 g1 S1 P1 P01 r1 q2 => ?_⟩
    exact mFrzs_ok (W := W) (R := fun vs H1 => rC X.K f v vs H1 Q) S1 Stp.refl r1 (Pst_bind P01 q2 fun ds ws F2 H2 g2 S2 P2 P02 r2 q3 => wr_ok (K := X.K) S2 P02 hv r2 q3)
def fAppend : D → List D → Option (D × D)
  | .lst xs, [y] => if xs.length < 1000000 then some (.non, .lst (xs ++ [y])) else none
  | _, _ => none
def fExtend : D → List D → Option (D × D)
  | .lst xs, [.lst ys] => if xs.length + ys.length ≤ 1000000 then some (.non, .lst (xs ++ ys)) else none
  | _, _ => none
def fPop : D → List D → Option (D × D)
  | .lst xs, [] => match xs[xs.length - 1]? with
    | some y => some (y, .lst xs.dropLast)
    | none => none
  | _, _ => none
def fSetL : D → List D → Option (D × D)
  | .lst xs, [.int k, y] => match ixN xs.length k with
    | some j => some (.non, .lst (xs.set j y))
    | none => none
  | _, _ => none
theorem reps1 {xs : List V} {d : D} {K : Frag} (r : Reps K F xs [d]) : ∃ v, xs = [v] ∧ Rep K F v d := by
  cases r with
  | cons a b => cases b; exact ⟨_, rfl, a⟩
theorem cell_lst {K : Frag} {a : Addr} {vs : List V} {ds : List D} (r : Reps K F vs ds) : Cell K F (upd H a (.lst vs)) a (.lst ds) := ⟨vs, upd_same, r⟩
theorem cm_append : MtR X "list.append" (rC X.K fAppend) := by
  intro pins s σ H x xs v us Q I rx rxs ⟨F, a, d, ds, r, d', sb, ex, c, rs, h, q⟩
  refine mt_append pins s σ H x xs v us Q I rx rxs ?_
  cases d with
  | lst zs =>
    obtain ⟨y, rfl⟩ := one_arg (f := fAppend (.lst zs)) h rfl fun a b r => rfl
    obtain ⟨w, rfl, r0⟩ := reps1 rs
    simp only [fAppend] at h
    by_cases l : zs.length < 1000000
    · rw [if_pos l] at h; cases h
      obtain ⟨vs, h1, h2⟩ := c
      exact ⟨a, vs, w, ex, rfl, h1, by rw [h2.length]; exact Nat.lt_of_lt_of_le l (by decide), q _ _ (cell_lst (h2.append (.cons r0 .nil))) (fun _ _ _ z => nomatch z) .non⟩
    · rw [if_neg l] at h; cases h
  | _ => cases h
theorem Reps.dropLast {K : Frag} {vs : List V} {ds : List D} (r : Reps K F vs ds) : Reps K F vs.dropLast ds.dropLast := by
  rw [List.dropLast_eq_take, List.dropLast_eq_take, r.length]; exact r.take _
def rS (K : Frag) (f : D → List D → Option (D × D)) : TSet := fun o i v H Q => rC K f o [i, v] H fun _ H' => Q H'
def mSetIx (T : String) (i : Nat) (f : D → List D → Option (D × D)) (p : M D) (mk : M D) : M Fl := p.bind fun d => (mKindN T i).bind fun _ => mk.bind fun k => (mWr i f [k, d]).bind fun _ => M.ret .nx
theorem ss_setIx {k : Expr} {pm mk : M D} {ps : Pos} (i : Nat) (hs : PSet X (rS X.K f)) (hN : X.N[i]? = some x) (hv : Vis X.env.scope x) (he : SE X W e pm) (hk : SE X W k mk)
    (hd : (x == ("__debug__" : Str)) = false := by decide) (hcd : (x == ("__classdict__" : Str)) = false := by decide)
    (ha : ∀ v, assign (.Subscript (.Name x p) k ps) X.env v = (do
      let ov ← holding [v] (eval (.Name x p) X.env)
      let iv ← holding [v, ov] (eval k X.env)
      standAt ps
      holding [v, ov, iv] (setItem ov iv v)
      release [v, ov, iv] []) := by intro _; rfl)
    (hsw : swapsWithSole [.Subscript (.Name x p) k ps] e pos.line X.env = pure false := by rfl) (hw : swappedStores [.Subscript (.Name x p) k ps] e X.env = pure none := by rfl)
    (h1 : (assignEach [.Subscript (.Name x p) k ps] X.env).map (·.2) = [assign (.Subscript (.Name x p) k ps) X.env] := by rfl) : SS X W (.Assign [.Subscript (.Name x p) k ps] e pos) (mSetIx T i f pm mk) :=
  PS_imp (ps_asg he (pg_sub (pe_var hN hv hd hcd) hk hs ha) hsw hw h1) fun E σ H q => by
  obtain ⟨F, g, S, q⟩ := q
  refine ⟨F, g, S, Pst_stm Stp.refl q fun d v F1 H1 g1 S1 P1 P01 r1 q1 => ?_⟩
  unfold M.bind at q1
  rcases kindN_cases (T := T) (i := i) S1 with h | ⟨h, w, hv, ty⟩
  · rw [h] at q1; exact q1.elim
  · rw [h] at q1
    refine ⟨w, hv, F1, g1, S1, Pst_stm P01 (f := fun k => (mWr i f [k, d]).bind fun _ => M.ret .nx) q1 fun kd kv F2 H2 g2 S2 P2 P02 r2 q2 => ?_⟩
    have q3 : Pst X.K W σ (relE X.K) F H g (fun _ H' => E.nx σ H') (mWr i f [kd, d] g2) := by
      unfold M.bind at q2
      cases o : mWr i f [kd, d] g2 with
      | none => rw [o] at q2; exact q2.elim
      | some z => cases z with
        | ok a g3 => rw [o] at q2; exact fun v F' H' S' P' _ => q2 F' σ H' S' P'
        | ex c g3 => rw [o] at q2; exact fun F' H' S' P' => q2 F' σ H' S' P'
    exact wr_ok (K := X.K) S2 P02 hv (.cons r2 (.cons (Rep.mono P2.fg r1) .nil)) q3
theorem wset_list : PSet X (rS X.K fSetL) := by
  intro pins s σ H o i v ov iv u Q I ro ri rv ⟨F, a, d, ds, r, d', sb, ex, c, rs, h, q⟩
  refine set_list pins s σ H o i v ov iv u Q I ro ri rv ?_
  cases d with
  | lst zs =>
    cases rs with
    | cons r0 rs => cases rs with
      | cons r1 rs => cases rs; rename_i d0 d1
                      cases d0 with
                      | int k =>
                        simp only [fSetL] at h
                        cases oj : ixN zs.length k with
                        | none => rw [oj] at h; cases h
                        | some j =>
                          rw [oj] at h; cases h
                          cases r0
                          obtain ⟨vs, h1, h2⟩ := c
                          exact ⟨a, vs, k, j, ex, rfl, h1, by rw [h2.length]; exact oj, q .non _ (cell_lst (h2.set r1 j)) (fun _ _ _ z => nomatch z) .non⟩
                      | _ => cases h
  | _ => cases h
end
end Cq

set_option Elab.async false
set_option linter.all false
set_option maxRecDepth 100000
namespace Cq
open PySem PySem.Spec PyProof.Rows L2
section
variable {P : Program} {w : World} {A : Around} {E : Value → Shared → Prop} {s : Shared}
set_option maxHeartbeats 3200000 in
/-- set(list of ints): the set that is made can be walked -/
theorem call_set_listI {l : Addr} {items : Array Value} (ns : List Int) {Q : Value → Shared → Prop} (hh : A.handled = none) (hl : s.heap.IsList l items) (hit : IntsAre items.toList ns) (hb : ns.length + 1 < scanBound)
    (h : ∀ (h' : Heap) (tk c : Nat), SetR w h' s.heap.objs.size (fun j => decide (j ∈ ns)) c → c ≤ ns.length → (∀ b o, s.heap.get? b = some o → h'.get? b = some o) → Q (.ref s.heap.objs.size) { s with heap := h', toks := tk }) :
    wpAny (model P w) A (call (.type "set") [.ref l]) Q E s := by
  have hisz : items.size = ns.length := by
    have q := IntsAre.length hit
    rw [Array.length_toList] at q
    exact q
  obtain ⟨c, tl, hmro⟩ := F.called_set.mro
  have hmade := F.called_set.made
  have hsub := F.called_set.sub
  refine wpAny_call (codeAny_of_tree ?_)
  show wpAny _ _ (callAny (.type "set") _) _ _ _
  refine wpAny_pure ⟨Code.quiet_builtin _ (by decide +kernel), codeAny_builtin F.entry_type_call ?_⟩
  rw [Around.under_plain (weight_type_call_type "set" [.ref l] []) rfl]
  have h1 := F.called_set.notType
  have h2 := F.called_set.canCreate
  have hct := F.typeCall_set_1 (.ref l)
  repeat (any_goals (first | assumption | wp_step))

  refine codeAny_mono (code_set_led1 (.ref l) (E := E) (Q₁ := fun obj s₁ => obj = .ref s.heap.objs.size ∧ s₁ = { s with heap := s.heap.push { cls := .type "set", dict := none, data := .set #[] 0 (.fresh 0 0 (!w.params.followText "set-order")) } }) ⟨rfl, rfl⟩) fun r s₁ hr => ?_
  cases r with
  | error e => exact hr
  | ok fl =>
    cases fl with
    | ret obj =>
      obtain ⟨rfl, rfl⟩ := hr
      have hS : (s.heap.push { cls := .type "set", dict := none, data := .set #[] 0 (.fresh 0 0 (!w.params.followText "set-order")) }).get? s.heap.objs.size = some { cls := .type "set", dict := none, data := .set #[] 0 (.fresh 0 0 (!w.params.followText "set-order")) } := Heap.get?_push_size _ rfl
      have hT : Shared.TypeIs { s with heap := s.heap.push { cls := .type "set", dict := none, data := .set #[] 0 (.fresh 0 0 (!w.params.followText "set-order")) } } (.ref s.heap.objs.size) "set" := ⟨_, hS, rfl⟩
      have hli := F.called_set.init.lookup
      have hbi := F.called_set.init.bind (.ref s.heap.objs.size)
      repeat (any_goals (first | assumption | wp_step))

      refine codeAny_mono (codeAny_call_builtin (R := wants (fun r s₂ => r = .none ∧ ∃ h' tk c, s₂ = { s with heap := h', toks := tk } ∧ SetR w h' s.heap.objs.size (fun j => decide (j ∈ ns)) c ∧ c ≤ ns.length ∧
          (∀ b o, s.heap.get? b = some o → h'.get? b = some o)) E) F.called_set.init.plain F.entry_set_init (check_set_init_1 hT ?_)) fun r₂ s₂ hr₂ => ?_
      · obtain ⟨ol, hol, hcl, nl, hdl⟩ := hl
        obtain ⟨ocls, odict, odata, oslots⟩ := ol
        simp only at hcl hdl
        subst hcl; subst hdl
        have hol' : (s.heap.push { cls := .type "set", dict := none, data := .set #[] 0 (.fresh 0 0 (!w.params.followText "set-order")) }).get? l = some { cls := .type "list", dict := odict, data := .seq items nl, slots := oslots } := Heap.get?_push_of_some _ hol
        have hsls := F.sub_list_set
        have hslf := F.sub_list_frozenset
        have hne : (Value.type "list" == Value.type "dict") = false := by decide
        have hl1 : (s.heap.push { cls := .type "set", dict := none, data := .set #[] 0 (.fresh 0 0 (!w.params.followText "set-order")) }).IsList l items := ⟨_, hol', rfl, nl, rfl⟩
        unfold Builtin.«set.__init__» noKeywords Builtin.Frozenset.updateFrom
        generalize hPI : pyIter = PI
        wp_walk
        subst hPI

        refine wpAny_pyIter_list hl1 ?_
        refine wpAny_bind (wpAny_runValue ?_)
        have hlS : l < s.heap.objs.size := Heap.lt_size hol
        have hh3 : A.in1.in1.in1.handled = none := by simp [hh]
        have hz1 : (s.heap.push { cls := .type "set", dict := none, data := .set #[] 0 (.fresh 0 0 (!w.params.followText "set-order")) }).objs.size = s.heap.objs.size + 1 := Heap.size_push ..
        have hneI : l ≠ (s.heap.push { cls := .type "set", dict := none, data := .set #[] 0 (.fresh 0 0 (!w.params.followText "set-order")) }).objs.size := by
          rw [Heap.size_push]; exact Nat.ne_of_lt (Nat.lt_succ_of_lt hlS)
        have hSf : s.heap.objs.size ∉ [(s.heap.push { cls := .type "set", dict := none, data := .set #[] 0 (.fresh 0 0 (!w.params.followText "set-order")) }).objs.size, l] := by
          rw [Heap.size_push]; simp only [List.mem_cons, List.mem_singleton, List.not_mem_nil, or_false, not_or]
          exact ⟨Nat.ne_of_lt (Nat.lt_succ_self _), Nat.ne_of_gt hlS⟩
        have hval : ∀ (i : Nat) (v : Value), items[i]? = some v → ∃ k t, ns[i]? = some k ∧ v = .int k t := fun i v hv => by
          have hi : i < ns.length := by rw [← hisz]; exact (Array.getElem?_eq_some_iff.mp hv).1
          obtain ⟨t, e⟩ := PyProof.Rows.IntsAre.int_at hit i v (by rw [Array.getElem?_toList]; exact hv)
          refine ⟨ns[i], t, List.getElem?_eq_getElem hi, ?_⟩
          rw [e, List.getD_eq_getElem?_getD, List.getElem?_eq_getElem hi] <;> rfl
        refine set_update_ints ((Walks.list hh3 _ l hneI items).toS) s.heap.objs.size
          hSf ns hisz hb hval (items.size - 0) 0 _ (by omega) (Nat.zero_le _)
          ⟨⟨_, Heap.get?_push_size _ rfl, rfl, rfl⟩, (hl1.push _)⟩ ?hS0 ?hR
        case hS0 =>
          have hget : ((s.heap.push { cls := .type "set", dict := none, data := .set #[] 0 (.fresh 0 0 (!w.params.followText "set-order")) }).push { cls := .type "list_iterator", data := .fields #[.ref l, .int 0 0] }).get? s.heap.objs.size
              = some { cls := .type "set", dict := none, data := .set #[] 0 (.fresh 0 0 (!w.params.followText "set-order")) } := Heap.get?_push_of_some _ hS
          exact ⟨0, Nat.le_refl 0, setR_new_at hget⟩
        case hR =>
          intro s' c' hm hc' hS'
          obtain ⟨h', g2, d', tk', os'⟩ := s'
          have eg : g2 = s.gens := hm.gens
          have ed : d' = s.drawn := hm.drawn
          have eo : os' = s.os := hm.os
          subst eg; subst ed; subst eo
          show wpAny _ _ _ _ _ _
          refine wpAny_pure ?_
          show wpAny _ _ (ret Value.none) _ _ _
          rw [hisz] at hc'
          refine wpAny_pure ⟨rfl, h', tk', c', rfl, hS', hc', fun b o e => ?_⟩
          have hb0 : b < s.heap.objs.size := Heap.lt_size e
          have hb1 : b ≠ s.heap.objs.size := Nat.ne_of_lt hb0
          have hb2 : b ≠ (s.heap.push { cls := .type "set", dict := none, data := .set #[] 0 (.fresh 0 0 (!w.params.followText "set-order")) }).objs.size := by
            rw [Heap.size_push]; exact Nat.ne_of_lt (Nat.lt_succ_of_lt hb0)
          exact hm.heap b o (by simp only [List.mem_cons, List.mem_singleton, List.not_mem_nil, or_false, not_or]; exact ⟨hb1, hb2⟩) (Heap.get?_push_of_some _ (Heap.get?_push_of_some _ e))

      · cases r₂ with
        | error e => exact hr₂
        | ok fl₂ =>
          cases fl₂ with
          | ret r =>
            obtain ⟨rfl, h', tk, c', rfl, hS', hc', hk'⟩ := hr₂
            repeat (any_goals (first | assumption | wp_step))
            exact h _ _ _ hS' hc' hk'
          | _ => exact hr₂.elim
    | _ => exact hr.elim
end
end Cq

set_option Elab.async false
set_option linter.all false
set_option maxRecDepth 100000
namespace Cq
open PySem PySem.Spec PyProof.Rows L2
def insD (k : Int) : List Int → List Int
  | [] => [k]
  | x :: r => if k < x then k :: x :: r else if k = x then x :: r else x :: insD k r
def sdL (ns : List Int) : List Int := ns.foldr insD []
theorem mem_insD {k j : Int} : ∀ {l : List Int}, j ∈ insD k l ↔ j = k ∨ j ∈ l
  | [] => by simp [insD]
  | x :: r => by
    unfold insD
    by_cases h : k < x
    · rw [if_pos h]; simp
    · rw [if_neg h]
      by_cases h2 : k = x
      · rw [if_pos h2]; subst h2; simp
      · rw [if_neg h2]
        simp only [List.mem_cons, mem_insD (l := r)]
        constructor
        · rintro (h | h | h)
          · exact .inr (.inl h)
          · exact .inl h
          · exact .inr (.inr h)
        · rintro (h | h | h)
          · exact .inr (.inl h)
          · exact .inl h
          · exact .inr (.inr h)
theorem srt_insD {k : Int} : ∀ {l : List Int}, l.Pairwise (· < ·) → (insD k l).Pairwise (· < ·)
  | [], _ => by simp [insD]
  | x :: r, h => by
    obtain ⟨h1, h2⟩ := List.pairwise_cons.mp h
    unfold insD
    by_cases c : k < x
    · rw [if_pos c]
      exact List.pairwise_cons.mpr ⟨fun y hy => by
        rcases List.mem_cons.mp hy with rfl | hy
        · exact c
        · have := h1 y hy; omega, h⟩
    · rw [if_neg c]
      by_cases c2 : k = x
      · rw [if_pos c2]; exact h
      · rw [if_neg c2]
        exact List.pairwise_cons.mpr ⟨fun y hy => by
          rcases mem_insD.mp hy with rfl | hy
          · omega
          · exact h1 y hy, srt_insD h2⟩
theorem mem_sdL {j : Int} : ∀ {ns : List Int}, j ∈ sdL ns ↔ j ∈ ns
  | [] => by simp [sdL]
  | n :: ns => by
    show j ∈ insD n (sdL ns) ↔ _
    rw [mem_insD, mem_sdL, List.mem_cons]
theorem srt_sdL : ∀ (ns : List Int), (sdL ns).Pairwise (· < ·)
  | [] => by simp [sdL]
  | n :: ns => srt_insD (srt_sdL ns)
theorem srt_uniq : ∀ {a b : List Int}, a.Pairwise (· < ·) → b.Pairwise (· < ·) → (∀ k, k ∈ a ↔ k ∈ b) → a = b
  | [], [], _, _, _ => rfl
  | [], y :: b, _, _, h => by have := (h y).mpr List.mem_cons_self; cases this
  | x :: a, [], _, _, h => by have := (h x).mp List.mem_cons_self; cases this
  | x :: a, y :: b, ha, hb, h => by
    obtain ⟨a1, a2⟩ := List.pairwise_cons.mp ha
    obtain ⟨b1, b2⟩ := List.pairwise_cons.mp hb
    have e : x = y := by
      rcases List.mem_cons.mp ((h x).mp List.mem_cons_self) with e | e
      · exact e
      · rcases List.mem_cons.mp ((h y).mpr List.mem_cons_self) with f | f
        · exact f.symm
        · have := b1 x e; have := a1 y f; omega
    subst e
    congr 1
    refine srt_uniq a2 b2 fun k => ⟨fun m => ?_, fun m => ?_⟩
    · rcases List.mem_cons.mp ((h k).mp (List.mem_cons_of_mem _ m)) with e | e
      · have := a1 k m; omega
      · exact e
    · rcases List.mem_cons.mp ((h k).mpr (List.mem_cons_of_mem _ m)) with e | e
      · have := b1 k m; omega
      · exact e
section
variable {X : Cx} {W : WX} {pos : Pos} {σ : L2.St} {F H F0 H0 : Hp} {g g0 : Gm} {a : Expr} {ta : TE}
def tSortSet (K : PySem.W.Frag) (ta : TE) : TE := fun σ H Q => ta σ H fun x H1 => ∃ (l : Addr) (ns : List Int), x = V.ref l ∧ SqL K H1 l (ns.map V.int) ∧ ns.length < 64 ∧ ∀ p, H1 p = none → Q (.ref p) (upd H1 p (.lst ((sdL ns).map V.int)))
theorem sort_step {pins : List (Addr × Obj)} {s2 : Shared} {H1 : Hp} {l : Addr} {c : Nat} {ns : List Int} {Q : VK} (I2 : Inv X pins σ H1 s2) (hc : X.calm = true) (R : SetR X.w s2.heap l (fun j => decide (j ∈ ns)) c) (hcn : c ≤ ns.length) (h64 : ns.length < 64)
    (q1 : ∀ p, H1 p = none → Q (.ref p) (upd H1 p (.lst ((sdL ns).map V.int)))) : wpAny (model X.prog X.w) X.A (call (.builtin "sorted") [.ref l]) (EP X pins σ Q) X.xe s2 := by
  refine sorted_set R (I2.ok.hd hc) (by omega) fun s' p out cc ms k g o hp hg hi hs hmm hl => ?_
  have e : ms = sdL ns := srt_uniq hs (srt_sdL ns) fun k => by rw [hmm, mem_sdL]; simp
  subst e
  have hlen : ((sdL ns).map V.int).length ≤ sizeLine := by rw [List.length_map, hl, sizeLine_eq]; omega
  have hn : H1 p = none := I2.hok.fresh hp
  have J : Inv X pins σ (upd H1 p (.lst ((sdL ns).map V.int))) { s2 with heap := s'.heap, gens := s'.gens, drawn := s'.drawn, toks := s'.toks } :=
    I2.call (ch := []) (Un.laid k hp hn) (I2.hok.laid k hp ⟨hlen, out.toList, cc, vals_of_ints hi, hg⟩) (by rw [g]; exact I2.bare) (fun _ z => nomatch z)
  have e : s' = { s2 with heap := s'.heap, gens := s'.gens, drawn := s'.drawn, toks := s'.toks } := by
    cases s'
    cases s2
    cases o
    rfl
  rw [e]
  exact ⟨.ref p, _, J, rfl, q1 p hn⟩
theorem pe_sortSet {p p2 q pos : Pos} (hc : X.calm = true) (hg : Gl X "sorted") (hm : X.mg "sorted" = none) (hg2 : Gl X "set") (hm2 : X.mg "set" = none) (ha : PE X a ta)
    (na : starEach [a] X.env = (false, eval a X.env) :: starEach [] X.env := by rfl) : PE X (.Call (.Name "sorted" p) [.Call (.Name "set" p2) [a] [] q] [] pos) (tSortSet X.K ta) := by
  refine ⟨fun pins s σ H Q I h => ?_⟩
  refine Call_ (ld_blt I hg hm (u := .builtin "sorted") (by decide +kernel) ?_)
  refine PyProof.Rows.callWith_builtin1 (PyProof.Rows.args_cons ?_ rfl) rfl rfl
  refine Call_ (ld_blt I hg2 hm2 PyProof.Rows.boot_set ?_)
  refine PyProof.Rows.callWith_type1 (PyProof.Rows.args_cons (thn (ha.run pins s σ H _ I h) fun v s1 ⟨x, H1, I1, r1, q1⟩ => PyProof.Rows.args_nil ?_) na) na rfl
  obtain ⟨l, ns, rfl, hq, h64, q1⟩ := q1
  cases r1
  obtain ⟨its, r, pl, hz⟩ := I1.list hq
  have hl : its.length = ns.length := by rw [← r.length, List.length_map]
  refine call_set_listI (P := X.prog) (w := X.w) ns (I1.ok.hd hc) pl.isList (by simpa using r.ints) (by unfold scanBound; omega) fun h' tk c R hcn hk => ?_
  refine PyProof.Rows.args_nil ?_
  have I2 : Inv X pins σ H1 { s1 with heap := h', toks := tk } := I1.kept fun b o e => hk b o e
  exact sort_step I2 hc R hcn h64 q1
def iSortSet : List D → Option D
  | [.lst xs] => match intsOf xs with
    | some ns => if ns.length < 64 then some (.lst ((sdL ns).map .int)) else none
    | none => none
  | _ => none
theorem sn_sortSet {p p2 q pos : Pos} {mo : M Hd} (hc : X.calm = true) (hg : Gl X "sorted") (hm : X.mg "sorted" = none) (hg2 : Gl X "set") (hm2 : X.mg "set" = none) (ha : SO X W a mo)
    (na : starEach [a] X.env = (false, eval a X.env) :: starEach [] X.env := by rfl) : SN X W (.Call (.Name "sorted" p) [.Call (.Name "set" p2) [a] [] q] [] pos) (mo.bind fun h => mFs iSortSet [h]) :=
  PE_imp (pe_sortSet hc hg hm hg2 hm2 ha na) fun σ H Q q => by
  obtain ⟨F, g, S, q⟩ := q
  refine ⟨F, g, S, Pst_bind Stp.refl q fun h v F1 H1 g1 S1 P1 P01 r1 q1 => ?_⟩
  obtain ⟨F4, ds, z, sb, r, hz, k⟩ := fsN_ok S1 P01 (.cons r1 .nil) q1
  obtain ⟨d, rfl⟩ := one_arg (f := iSortSet) hz rfl fun a b r => by cases a <;> rfl
  obtain ⟨w, ew, r0⟩ := rovs1 r
  cases ew
  cases d with
  | lst xs =>
    simp only [iSortSet] at hz
    cases o : intsOf xs with
    | none => rw [o] at hz; cases hz
    | some ns =>
      rw [o] at hz
      have hz : (if ns.length < 64 then some (D.lst ((sdL ns).map .int)) else none) = some z := hz
      by_cases c : ns.length < 64
      · rw [if_pos c] at hz; cases hz
        obtain ⟨l, vs, rfl, k1, k2⟩ := r0.lst sb
        rw [intsOf_ok o] at k2
        refine ⟨l, ns, rfl, .inl (.inl (by rw [← k2.ints]; exact k1)), c, fun p np => ?_⟩
        obtain ⟨A', c', n'⟩ := new_lst (X := X) sb np (reps_ints (K := X.K) (F := F4) (sdL ns))
        exact k p F4 _ A' c' n'
      · rw [if_neg c] at hz; cases hz
  | _ => cases hz
end
end Cq

set_option Elab.async false
set_option linter.all false
set_option maxRecDepth 100000
namespace Cq
open PySem PySem.Spec PyProof.Rows L2
section
variable {P : Program} {w : World} {K : Frag} {mg : Str → Option Value} {base : Heap} {x qual : Str} {params : Arguments} {body : List Stmt} {scope : Scope} {f : Addr} {fd : FuncData}
theorem fng {k : Nat} {N ps : List Str} {ms : List Md} {m : M Fl} (F : FunD K x qual params body scope [] [] f fd) (S : FnScope N ps scope) (hl : ms.length = ps.length)
    (hb : ∀ (kV doc pm : Value) (an : Option Addr) (cdv ct : Value) (us : List Value), us.length = ps.length → bindArgs (PySem.W.fnOf x qual params body scope .none kV doc pm an cdv ct) ⟨us, []⟩ = pure (ps.zip us))
    (hbody : ∀ (cdv : Value) (A : Around) (outer : List PySem.Env) (s : Shared) (H : Hp) (E : XK), (A.deeper (envOfC qual scope s.heap.objs.size f cdv)).guards = some [] → Room k (A.deeper (envOfC qual scope s.heap.objs.size f cdv)) → Takes (cxOf (L2.CX P w) P w K mg base N qual scope f cdv A outer s H E) (wE E) →
      PassesOwn (model P w) (A.deeper (envOfC qual scope s.heap.objs.size f cdv)) (envOfC qual scope s.heap.objs.size f cdv) (cxOf (L2.CX P w) P w K mg base N qual scope f cdv A outer s H E).xe →
      SSs (cxOf (L2.CX P w) P w K mg base N qual scope f cdv A outer s H E) (wE E) body m) :
    FnG P w K mg base (L2.CX P w) (k + 1) f (spF K ms (runDef ms N.length m)) := by
  have bnd := F.bindsN hb
  obtain ⟨oc, od, dV, kV, doc, pm, an, cdv, ct, osl, rfl, lk, hcd, _, _⟩ := F.ex
  intro A outer s H us vs Q E gd hr e0 r hsp
  have hl' : vs.length = ps.length := by obtain ⟨_, _, _, l, _⟩ := hsp; exact l.trans hl
  have hul : us.length = ps.length := by rw [← r.length]; exact hl'
  have KX : K.In s.heap := e0.mod.kin.keeps fun b o e => (e0.bs b o e).1
  have lim : s.heap.NoLimit := e0.mod.nolimit.keeps fun b o e => (e0.bs b o e).1
  have hkind : ∀ y ∈ ps.zip us, scope.names.lookup y.1 = some .local ∨ (scope.names.lookup y.1 = some .cell ∧ ((cellsFrom (s.heap.objs.size + 1) scope.names []).lookup y.1).isSome = true) := fun ⟨n, v⟩ hy => by
    rcases S.par n (List.of_mem_zip hy).1 with q | q
    · exact .inl q
    · exact .inr ⟨q, PySem.W.cellsFrom_some _ _ _ (.inl q)⟩
  have hbd := bnd s us KX (by rw [List.append_nil]; exact hul)
  rw [List.append_nil] at hbd
  refine codeAny_call_function hr.depth (KX _ _ lk) rfl S.co S.gen rfl (PySem.W.codeRec_of KX hcd) (hbd _ _ _ _ ?_)
  refine wpAny_newFunctionEnv_cells S.kind hkind fun env he s1 x => ?_
  subst he
  refine ⟨lim.keeps x.toInCall.keep, codeAny_func ?_⟩
  have ht := hbody cdv A outer s H E gd (hr.deeper _) (takes_of rfl rfl rfl rfl) (passes_of rfl)
  have hq : tS K (wE E) m { nx := fun _ H' => Q .non H', rt := Q } (start N vs) H := by
    have e : start N vs = vs.map some ++ List.replicate (N.length - ms.length) none := by
      unfold L2.start
      rw [hl', hl]
    rw [e]
    exact def_reads (fun _ _ _ z => z) hsp
  have I : Inv (cxOf (L2.CX P w) P w K mg base N qual scope f cdv A outer s H E) [] (start N vs) H s1 := inv_start S hr.hd e0 hl' r x
  refine wpAny_mono (ht.run [] s1 (start N vs) H _ I hq) (fun fl s' hs => ?_) fun e s' hs => hs
  have fin : ∀ {σ' : L2.St} {H' : Hp} {v : V} {u : Value}, Inv (cxOf (L2.CX P w) P w K mg base N qual scope f cdv A outer s H E) [] σ' H' s' → RelV v u → Q v H' → CE outer P w H s Q u s' :=
    fun {σ' H' v u} J rv q => ⟨v, H', J.os, J.bare, J.base, J.hok, rv, q⟩
  cases fl with
  | ret u =>
    obtain ⟨v, σ', H', J, rv, q⟩ := hs
    exact fin J rv q
  | next =>
    obtain ⟨σ', H', J, q⟩ := hs
    exact fin (v := V.non) (u := Value.none) J rfl q
  | brk =>
    obtain ⟨_, _, _, q⟩ := hs
    exact False.elim q
  | cont =>
    obtain ⟨_, _, _, q⟩ := hs
    exact False.elim q
end
section
variable {X : Cx} {W : WX} {pos p : Pos} {σ : L2.St} {F H F0 H0 : Hp} {g g0 : Gm}
theorem calR_fng {k : Nat} {f : Addr} {sp : Sp} (F : FnG X.prog X.w X.K X.mg X.base (L2.CX X.prog X.w) k f sp) (gd : X.A.guards = some []) (hr : Room k X.A) (tk : Takes X W) : CalR X W (.ref f) sp := by
  intro pins s σ H us vs Q I r h
  refine wpAny_call (codeAny_mono (F X.A X.stack s H us vs Q (WE W σ) gd hr I.env0 r h) fun r s' hq => ?_)
  cases r with
  | error e => exact passAt tk σ pins H s e s' I hq
  | ok fl =>
    cases fl with
    | ret u => exact I.after hq
    | next => exact False.elim hq
    | brk => exact False.elim hq
    | cont => exact False.elim hq
def dRepr : List D → Option D
  | [d] => match d.py with
    | some p => if (p.showable && !p.hasDict) = true ∧ p.shown.length ≤ 1000000 ∧ p.depth ≤ 60 then some (.str p.shown) else none
    | none => none
  | _ => none
end
end Cq
namespace L2
open PySem PySem.Spec PyProof.Rows Cq
theorem law_callG {P : Program} {w : World} {K : PySem.W.Frag} {mg mb : Str → Option Value} {CX : CXT} {k : Nat} {fa a : Addr} {sp : Sp} {s₁ : Shared} {vs : List Value} {ns : List Int}
    (KX : K.In s₁.heap) (hns : s₁.heap.Ns mainGlobals mg) (hb : s₁.heap.Ns builtinsNs mb) (hbb : ∀ x : Str, x ≠ "__name__" → mb x = bootBuiltins x) (hlim : s₁.heap.NoLimit) (hg : s₁.gens = #[])
    (ha : s₁.heap.get? a = some { cls := .type "list", data := .seq vs.toArray }) (hi : IntsAre vs ns) (hl : ns.length ≤ sizeLine) (hr : Room k callerA)
    (F : ∀ base : Heap, K.In base → base.Ns mainGlobals mg → FnG P w K mg base CX k fa sp)
    (hsp : ∀ H : Hp, Only H → SqL K H a (ns.map V.int) → sp [.ref a] H (fun v _ => v = .bl true) fun _ _ _ => False)
    (hCX : ∀ H e s', CX [] H s₁ (fun _ _ _ => False) e s' → False) :
    codeAny (model P w) callerA (.call (.ref fa) ⟨[.ref a], []⟩) (fun r s' => r = .ok (.ret (.bool true)) ∧ OldK s₁.heap s'.heap ∧ s'.os = s₁.os ∧ AllBare s'.gens) s₁ := by
  have rv := vals_ints hi
  have lenV := hi.length
  -- from an abstract heap in which nothing but the script may be tracked
  have core : ∀ H : Hp, Only H → SqL K H a (ns.map V.int) → HOk P w H s₁.heap → (∀ b, H b ≠ none → b = a) → (H a ≠ none → K.lookup a = none) →
      codeAny (model P w) callerA (.call (.ref fa) ⟨[.ref a], []⟩) (fun r s' => r = .ok (.ret (.bool true)) ∧ OldK s₁.heap s'.heap ∧ s'.os = s₁.os ∧ AllBare s'.gens) s₁ := by
    intro H hO hS hok hA hK
    have base_of : ∀ {b : Addr} {o : Obj}, s₁.heap.get? b = some o → H b = none → (hidT s₁.heap H).get? b = some o := fun e n => hidT_get e n
    have noA : ∀ {b : Addr} {o : Obj} {es : Array DictEntry} {ep : Nat}, s₁.heap.get? b = some o → o.data = .dict es ep → H b = none := fun {b o es ep} e d => by
      cases q : H b with
      | none => rfl
      | some u =>
        have e' : b = a := hA b (by rw [q]; simp)
        subst e'
        rw [ha] at e; cases e
        have d' : Data.seq vs.toArray _ = Data.dict es ep := d
        cases d'
    have nsK : ∀ {b : Addr} {m : Str → Option Value}, s₁.heap.Ns b m → (hidT s₁.heap H).Ns b m := fun {b m} ⟨o, es, ep, e, d, r⟩ => ⟨o, es, ep, base_of e (noA e d), d, r⟩
    have hKb : K.In (hidT s₁.heap H) := fun b o e => base_of (KX b o e) (by
      cases q : H b with
      | none => rfl
      | some u =>
        have e' : b = a := hA b (by rw [q]; simp)
        subst e'
        rw [hK (by rw [q]; simp)] at e; cases e)
    have hM : Mod K mg (hidT s₁.heap H) := ⟨hKb, nsK hns, ⟨mb, nsK hb, hbb⟩, let ⟨mc, h1, h2⟩ := hlim; ⟨mc, nsK h1, h2⟩⟩
    have e0 : Env0 P w K mg (hidT s₁.heap H) callerA [] s₁ H := ⟨rfl, hM, fun b o e => of_hidT e, Nat.le_of_eq (hidT_size _ _), trivial, fun b hb => absurd (show b ∈ ([] : List Addr) from hb) (by simp), hok, .of_eq hg⟩
    refine codeAny_mono (F _ hKb (nsK hns) callerA [] s₁ H [.ref a] [.ref a] _ _ rfl hr e0 (.cons rfl .nil) (hsp H hO hS)) fun r s' h => ?_
    cases r with
    | error e => exact (hCX H e s' h).elim
    | ok fl =>
      cases fl with
      | next => exact False.elim h
      | brk => exact False.elim h
      | cont => exact False.elim h
      | ret u =>
        obtain ⟨v, H', os, bare, un, hok', r', q⟩ := h
        have q' : v = .bl true := q
        subst q'
        obtain rfl : u = Value.bool true := r'
        refine ⟨rfl, OldK.of_keep fun b o e => ?_, os, bare⟩
        cases q : H b with
        | none => exact un.keep b o e q (by intro z; exact absurd (show b ∈ ([] : List Addr) from z) (by simp)) (by simp)
        | some u =>
          rcases hO b with z | ⟨ob, xs, z⟩
          · rw [q] at z; cases z
          · have z2 := un.frzs b ob _ z
            obtain ⟨e1, _⟩ := hok b _ z
            obtain ⟨e2, _⟩ := hok' b _ z2
            rw [e] at e1; cases e1
            exact e2
  cases hk : K.lookup a with
  | some o =>
    -- the script is one of the module's own objects
    have e := KX a o hk
    rw [ha] at e
    cases e
    refine core (fun _ => none) (fun _ => .inl rfl) (.inr ⟨_, vs.toArray, _, hk, rfl, rfl, rfl, by rw [List.size_toArray, lenV]; exact hl, by simpa using rv⟩) (fun b u z => by have z' : (none : Option HO) = some u := z; cases z') (fun b z => absurd rfl z) fun z => absurd rfl z
  | none =>
    refine core (fun b => if b = a then some (.frz { cls := .type "list", data := .seq vs.toArray } (.lst (ns.map V.int))) else none) (fun b => ?_) (.inl (.inr ⟨{ cls := .type "list", data := .seq vs.toArray }, if_pos rfl⟩)) (fun b u z => ?_) (fun b z => ?_) fun _ => hk
    · by_cases hb : b = a
      · exact .inr ⟨_, _, if_pos hb⟩
      · exact .inl (if_neg hb)
    · by_cases hb : b = a
      · have z' := (if_pos hb).symm.trans z
        cases z'
        subst hb
        exact ⟨ha, by rw [List.length_map]; exact hl, vs, _, rv, ha⟩
      · have z' := (if_neg hb).symm.trans z
        cases z'
    · by_cases hb : b = a
      · exact hb
      · exact absurd (if_neg hb) z
theorem walk_ofG {l : PySem.W.OpenLaw} {n k : Nat} {q : Program} {loose : List Str} {XP : (Str → Option Value) → Heap → Prop} {YP : World → Heap → Prop} {d : DefRec} {CX : World → CXT}
    (hn : l.most = some n) (hn2 : n ≤ sizeLine) (hdf : d.params.defaults = []) (hr : Room k callerA)
    (F : ∀ (w : World) (mg : Str → Option Value) (fa : Addr) (h : Heap), YP w h → h.Ns mainGlobals mg → mg d.name = some (.ref fa) →
      ∃ (K : PySem.W.Frag) (sp : Sp), K.In h ∧
        (∀ (H : Hp) (a : Addr) (ns : List Int), ns.length ≤ n → Only H → SqL K H a (ns.map V.int) → sp [.ref a] H (fun v _ => v = .bl true) fun _ _ _ => False) ∧
        ∀ base : Heap, K.In base → base.Ns mainGlobals mg → FnG l.prog w K mg base (CX w) k fa sp)
    (hCX : ∀ (w : World) (H : Hp) (s : Shared) (e : Value) (s' : Shared), CX w [] H s (fun _ _ _ => False) e s' → False) :
    PySem.W.WalkO q loose XP YP l.row.toRowW d [] (fun f vs => PySem.call f vs) := by
  refine Att.attach_call hn hdf fun w s₀ s₁ mg mb fa o pm cd doc a vs ns G Y ho hd hcd hmg hobj hints hlen hg => ?_
  obtain ⟨K, sp, KX, hsp, hF⟩ := F w mg fa _ Y G.T.g hmg
  exact law_callG KX G.T.g G.T.b G.T.builtins G.T.nolimit hg hobj hints (Nat.le_trans hlen hn2) hr hF (fun H hO hS => hsp H a ns hlen hO hS) fun H e s' => hCX w H s₁ e s'
end L2

set_option Elab.async false
set_option linter.all false
set_option maxRecDepth 100000
namespace Cq
open PySem PySem.Spec PyProof.Rows L2
section
variable {X : Cx} {W : WX} {pos : Pos} {σ : L2.St} {F H F0 H0 : Hp} {g g0 : Gm} {e : Expr} {ma : M (List Hd)}
def mPar (i j : Nat) (ma : M (List Hd)) : M Fl := ma.bind fun hs => (mFrzs hs).bind fun ds => fun g => match ds with
  | [d, e] => some (.ok .nx ((g.set i (.im d)).set j (.im e)))
  | _ => none
theorem ss_par {i j : Nat} {x y : Str} {a b : Expr} {px py pt : Pos} {kt k2 pt2} (hc : X.calm = true) (hN : X.N.Nodup) (hi : X.N[i]? = some x) (hj : X.N[j]? = some y) (hij : i ≠ j)
    (hx : X.env.scope.names.lookup x = some .local) (hy : X.env.scope.names.lookup y = some .local) (ha : SA X W [a, b] ma)
    (hw : swappedStores [.Tuple [.Name x px, .Name y py] kt pt] (.Tuple [a, b] k2 pt2) X.env = pure (some [x, y]))
    (hs : swapsWithSole [.Tuple [.Name x px, .Name y py] kt pt] (.Tuple [a, b] k2 pt2) pos.line X.env = pure false := by rfl) :
    SS X W (.Assign [.Tuple [.Name x px, .Name y py] kt pt] (.Tuple [a, b] k2 pt2) pos) (mPar i j ma) :=
  PS_imp (ps_par hc hN hi hj hij hx hy ha hw hs) fun E σ H q => by
  obtain ⟨F, g, S, q⟩ := q
  refine ⟨F, g, S, Pst_stm Stp.refl q fun hs vs F1 H1 g1 S1 P1 P01 r1 q1 => ?_⟩
  refine mFrzs_ok (W := W) (R := fun vs H1 => ∃ v w, vs = [v, w] ∧ E.nx ((σ.set i (some v)).set j (some w)) H1) S1 Stp.refl r1 (Pst_stm P01 q1 fun ds ws F2 H2 g2 S2 P2 P02 r2 q2 => ?_)
  cases r2 with
  | nil => exact q2.elim
  | cons r rs => cases rs with
    | nil => exact q2.elim
    | cons r' rs => cases rs with
      | cons _ _ => exact q2.elim
      | nil =>
        obtain ⟨S3, P3⟩ := S2.setIm i r
        obtain ⟨S4, P4⟩ := S3.setIm j r'
        exact ⟨_, _, rfl, q2 F2 _ H2 S4 (P02.trans (P3.trans P4))⟩
end
end Cq

set_option Elab.async false
set_option linter.all false
set_option maxRecDepth 100000
namespace Cq
open PySem PySem.Spec PyProof.Rows L2
section
variable {X : Cx} {W : WX} {pos p apos : Pos} {σ : L2.St} {F H F0 H0 : Hp} {g g0 : Gm} {e o : Expr} {es : List Expr} {ma : M (List Hd)} {mo : M Hd} {x : Str} {u : Value}
def CodR (X : Cx) (W : WX) (g : Addr) (sp : Sp) : Prop := ∀ (pins : List (Addr × Obj)) (s : Shared) (σ : L2.St) (H : Hp) (us : List Value) (vs : List V) (Q : VK), Inv X pins σ H s → Vals vs us → sp vs H Q (WE W σ) →
  codeAny (model X.prog X.w) X.A (.call (.ref g) ⟨us, []⟩) (fun r s' => match r with | .ok (.ret v) => EP X pins σ Q v s' | .ok _ => False | .error e => X.xe e s') s
theorem codR_fn {k : Nat} {f : Addr} {sp : Sp} (F : FnR X.prog X.w X.K X.mg X.base (L2.CX X.prog X.w) k f sp) (hr : Room k X.A) (tk : Takes X W) : CodR X W f sp := by
  intro pins s σ H us vs Q I r h
  refine codeAny_mono (F X.A X.stack s H us vs Q (WE W σ) hr I.env0 r h) fun r s' hq => ?_
  cases r with
  | error e => exact passAt tk σ pins H s e s' I hq
  | ok fl =>
    cases fl with
    | ret u => exact I.after hq
    | next => exact False.elim hq
    | brk => exact False.elim hq
    | cont => exact False.elim hq
def spMk (C : Addr) (sp : Sp) : Sp := fun vs H Q E => ∀ x dx, H x = Option.none → H dx = Option.none → dx ≠ x → sp (V.ref x :: vs) (upd (upd H dx (.own x)) x (.ins C dx [])) (fun v H2 => v = .non ∧ Q (.ref x) H2) E
theorem calR_mk {k : Nat} {C f : Addr} {sp : Sp} (M : Mk X.K C f) (F : FnR X.prog X.w X.K X.mg X.base (L2.CX X.prog X.w) k f sp) (hr : Room (k + 1) X.A) (tk : Takes X W) : CalR X W (.ref C) (spMk C sp) := by
  intro pins s σ H us vs Q I r h
  have hq := h (s.heap.objs.size + 1) s.heap.objs.size (I.hok.fresh (Nat.le_succ _)) (I.hok.fresh (Nat.le_refl _)) (Nat.ne_of_lt (Nat.lt_succ_self _))
  have I2 := Inv.made (C := C) I
  have r2 : Vals (V.ref (s.heap.objs.size + 1) :: vs) (Value.ref (s.heap.objs.size + 1) :: us) := .cons rfl r
  refine wpAny_call (make_map (f := f) I.kIn M.makes M.init (beq_iff_eq.mp M.fn) (codeAny_mono (F _ X.stack _ _ (Value.ref (s.heap.objs.size + 1) :: us) _ _ (WE W σ) (hr.make C us []) (I2.env0.make C us []) r2 hq) fun r s' hq' => ?_))
  cases r with
  | error e => exact passAt tk σ pins _ _ e s' I2 hq'
  | ok fl =>
    cases fl with
    | ret u =>
      obtain ⟨v, H', I3, rv, ev, q3⟩ := I2.after hq'
      subst ev
      exact ⟨rv, ⟨V.ref (s.heap.objs.size + 1), H', I3, rfl, q3⟩⟩
    | next => exact False.elim hq'
    | brk => exact False.elim hq'
    | cont => exact False.elim hq'
/-- what is left over is a new tuple -/
def spStar (n : Nat) (sp : Sp) : Sp := fun vs H Q E => ∃ ws rest, vs = ws ++ rest ∧ ws.length = n ∧ rest.length ≤ sizeLine ∧ ∀ p, H p = Option.none → sp (ws ++ [V.ref p]) (upd H p (.tup rest)) Q E
theorem Sta.pop {K : Frag} {s : Sl} {so : Option V} (S : Sta K F (g ++ [s]) (σ ++ [so]) H) (l : g.length = σ.length) : Sta K F g σ H ∧ ∀ x, Own g σ H x → Own (g ++ [s]) (σ ++ [so]) H x := by
  have gi : ∀ {i : Nat} {t : Sl}, g[i]? = some t → (g ++ [s])[i]? = some t ∧ (σ ++ [so])[i]? = σ[i]? := fun {i t} e => by
    have lt := (List.getElem?_eq_some_iff.mp e).1
    exact ⟨by rw [List.getElem?_append_left lt]; exact e, List.getElem?_append_left (by rw [← l]; exact lt)⟩
  have gc : ∀ {i : Nat} {d : D}, (g[i]?).bind Sl.cell = some d → ((g ++ [s])[i]?).bind Sl.cell = some d ∧ (σ ++ [so])[i]? = σ[i]? := fun {i d} c => by
    cases e : g[i]? with
    | none => rw [e] at c; cases c
    | some t => rw [e] at c; rw [(gi e).1]; exact ⟨c, (gi e).2⟩
  have ow : ∀ x, Own g σ H x → Own (g ++ [s]) (σ ++ [so]) H x := fun x ⟨i, d, a, c, e, f⟩ => ⟨i, d, a, (gc c).1, by rw [(gc c).2]; exact e, f⟩
  refine ⟨⟨S.sub, l, fun i t e => ?_, fun i j d e a b x ij c1 c2 e1 e2 => ?_, fun i d a e1 e2 => ?_, S.tb⟩, ow⟩
  · have := S.slot i t (gi e).1
    rw [(gi e).2] at this; exact this
  · exact S.inj i j d e a b x ij (gc c1).1 (gc c2).1 (by rw [(gc c1).2]; exact e1) (by rw [(gc c2).2]; exact e2)
  · exact (S.ro i d a (gi e1).1 (by rw [(gi e1).2]; exact e2)).imp id fun r o => r (ow a o)
theorem argDs_va {K : Frag} : ∀ {ds : List D}, argDs g (List.replicate ds.length .im) (ds.map .va) = some ds
  | [] => rfl
  | d :: ds => by simp only [List.length_cons, List.replicate_succ, List.map_cons, argDs, argD, argDs_va (K := K) (ds := ds)]
theorem apart_va : ∀ {ds : List D}, apartB (List.replicate ds.length .im) (ds.map .va) = true
  | [] => rfl
  | d :: ds => by simp only [List.length_cons, List.replicate_succ, List.map_cons, apartB, apart_va (ds := ds)]
theorem put_va {es : List D} : ∀ {ds : List D}, putMu (List.replicate ds.length .im) (ds.map .va) es g = some g
  | [] => by simp [putMu]
  | d :: ds => by simp only [List.length_cons, List.replicate_succ, List.map_cons, putMu, put_va (ds := ds)]
def mMk (c : Nat) (f : Fn) (ds : List D) : M D := fun g => match f (.ins c [] :: ds) with
  | some (.ret .non [d]) => some (.ok d g)
  | some (.exc k [_]) => some (.ex k g)
  | _ => none
theorem mk_ok {c : Nat} {f : Fn} {vs : List V} {ds : List D} {Q : VK} (S : Sta X.K F g σ H) (P0 : Stp F0 H0 g0 σ F H g σ) (r : Reps X.K F vs ds) (q : Pst X.K W σ (relN X.K) F0 H0 g0 Q (mMk c f ds g)) :
    spMk (ca X.K c) (spF X.K (.mu :: List.replicate ds.length .im) f) vs H Q (WE W σ) := by
  intro x dx hx hdx ne
  have lg := S.len
  have Se : Sta X.K F (g ++ [.un]) (σ ++ [none]) H := S.ext (n := 1)
  have A1 : Al F H F (upd H dx (.own x)) := Al.mkN S.sub hdx
  have hx1 : upd H dx (.own x) x = none := by rw [upd_ne ne.symm]; exact hx
  have A : Al F H F (upd (upd H dx (.own x)) x (.ins (ca X.K c) dx [])) := A1.trans (Al.mkN A1.sub hx1)
  generalize hH1 : upd (upd H dx (.own x)) x (.ins (ca X.K c) dx []) = H1 at A ⊢
  have atx : H1 x = some (.ins (ca X.K c) dx []) := by rw [← hH1]; exact upd_same
  have atd : H1 dx = some (.own x) := by rw [← hH1, upd_ne ne]; exact upd_same
  have foot : ∀ y, Foot H1 x y → y = x ∨ y = dx := fun y f => by
    rcases f with f | ⟨C, dx0, fv, e, qf⟩
    · exact .inl f
    · rw [atx] at e; cases e; exact .inr (qf.elim id fun z => by simp at z)
  have footH : ∀ y, Foot H1 x y → H y = none := fun y f => by
    rcases foot y f with rfl | rfl
    · exact hx
    · exact hdx
  obtain ⟨Se1, Pe1⟩ := Se.al A
  have c0 : Cell X.K F H1 x (.ins c []) := ⟨dx, [], atx, atd, rfl, .nil⟩
  have notown : ∀ y, Foot H1 x y → ¬ Own (g ++ [Sl.un]) (σ ++ [none]) H1 y := fun y f ow => by
    obtain ⟨u, hu⟩ := Se.own_at (Se.own_al A.hg ow)
    rw [footH y f] at hu; cases hu
  obtain ⟨S2, P2⟩ := Se1.setOw Pe1 g.length c0 (fun y f => ⟨sub_none S.sub (footH y f), notown y f, footH y f⟩) Se
  have eg : ∀ t : Sl, (g ++ [Sl.un]).set g.length t = g ++ [t] := fun t => by simp
  have es : ∀ t : Option V, (σ ++ [none]).set g.length t = σ ++ [t] := fun t => by rw [lg]; simp
  rw [eg, es] at S2 P2
  have hd : HdsR X.K F (σ ++ [some (V.ref x)]) (.nm g.length :: ds.map .va) (V.ref x :: vs) := .cons (show (σ ++ [some (V.ref x)])[g.length]? = _ by rw [lg]; simp) (HdsR.va r)
  have ad : argDs (g ++ [.ow (.ins c [])]) (.mu :: List.replicate ds.length .im) (.nm g.length :: ds.map .va) = some (.ins c [] :: ds) := by
    simp [argDs, argD, argDs_va (K := X.K), Sl.cell]
  have ap : apartB (.mu :: List.replicate ds.length .im) (.nm g.length :: ds.map .va) = true := by
    simp [apartB, apart_va, Hd.isNm]
  obtain ⟨l1, l2, Sp⟩ := callee_sta S2 hd ad ap
  refine ⟨F, .ins c [] :: ds, l1, l2, Sp, ?_⟩
  -- back
  have back : ∀ {es' : List D} {F' H' : Hp} {d : D}, es' = [d] → Sta X.K F' (gAft (.mu :: List.replicate ds.length .im) (.ins c [] :: ds) es') ((V.ref x :: vs).map some) H' →
      Stp F H1 (gOf (.mu :: List.replicate ds.length .im) (.ins c [] :: ds)) ((V.ref x :: vs).map some) F' H' (gAft (.mu :: List.replicate ds.length .im) (.ins c [] :: ds) es') ((V.ref x :: vs).map some) →
      Sta X.K F' g σ H' ∧ Stp F H g σ F' H' g σ ∧ relN X.K σ H0 F' H' g d (.ref x) := fun {es' F' H' d} ee S' P' => by
    subst ee
    have pm : putMu (.mu :: List.replicate ds.length .im) (.nm g.length :: ds.map .va) [d] (g ++ [.ow (.ins c [])]) = some (g ++ [.ow d]) := by
      have e1 : (g ++ [Sl.ow (.ins c [])])[g.length]? = some (.ow (.ins c [])) := by simp
      have e2 : (g ++ [Sl.ow (.ins c [])]).set g.length (.ow d) = g ++ [.ow d] := by simp
      simp only [putMu, e1, Sl.put, e2]
      exact put_va
    obtain ⟨S3, P3, O3⟩ := call_back S2 hd ad ap pm S' P'
    obtain ⟨S4, O4⟩ := S3.pop lg
    have P4 := P2.trans P3
    have hgl : (g ++ [Sl.ow d])[g.length]? = some (.ow d) := by simp
    have hsl : (σ ++ [some (V.ref x)])[g.length]? = some (some (V.ref x)) := by rw [lg]; simp
    obtain ⟨a, e1, k, n⟩ := S3.slot _ _ hgl
    rw [hsl] at e1; cases e1
    have foot' : ∀ y, Foot H' x y → H y = none := fun y f => by
      have ow : Own (gAft (.mu :: List.replicate ds.length .im) (.ins c [] :: ds) [d]) ((V.ref x :: vs).map some) H' y := ⟨0, d, x, rfl, rfl, f⟩
      rcases P'.own y ow with ⟨i, di, a, ci, ei, fi⟩ | o
      · rw [gOf_get l1] at ci
        cases i with
        | zero => cases ei; exact footH y fi
        | succ i =>
          exfalso
          simp only [List.getElem?_cons_succ, List.getElem?_replicate] at ci
          by_cases hi : i < ds.length
          · rw [if_pos hi, List.getElem?_eq_getElem hi] at ci
            cases ci
          · rw [if_neg hi] at ci; cases ci
      · cases q : H y with
        | none => rfl
        | some u => rw [A.hg _ _ q] at o; cases o
    refine ⟨S4, ⟨P4.fg, P4.st, fun y o h1 nb h2 h3 => P4.fr y o h1 nb h2 fun ow => h3 (own_ext (n := 1) (k := 1) S ow), fun y ow => ?_, fun i d h => ⟨h, rfl⟩, fun i d h => ⟨⟨d, h⟩, rfl⟩, P4.ki⟩, x, rfl, k, fun y f => ⟨n y f, fun ow => ?_, ?_⟩⟩
    · exact (P4.own y (O4 y ow)).imp (fun o => own_ext (n := 1) (k := 1) S o) id
    · obtain ⟨j, dj, b, c1, e2, f1⟩ := ow
      have lt : j < g.length := by
        cases e : g[j]? with
        | none => rw [e] at c1; cases c1
        | some t => exact (List.getElem?_eq_some_iff.mp e).1
      exact S3.inj j g.length dj d b x y (Nat.ne_of_lt lt) (by rw [List.getElem?_append_left lt]; exact c1) (by rw [hgl]; rfl) (by rw [List.getElem?_append_left (by rw [← lg]; exact lt)]; exact e2) hsl f1 f
    · exact Classical.byContradiction fun h0 => P0.st y h0 (foot' y f)
  unfold mMk at q
  cases hf : f (.ins c [] :: ds) with
  | none => simp only [hf] at q; exact q.elim
  | some fr =>
    cases fr with
    | new d es' => simp only [hf] at q; exact q.elim
    | ret d es' =>
      simp only [hf] at q
      cases d with
      | non =>
        cases es' with
        | nil => exact q.elim
        | cons d es' => cases es' with
          | cons _ _ => exact q.elim
          | nil =>
            intro v F' H' S' P' rv
            obtain ⟨z1, z2, z3⟩ := back rfl S' P'
            cases rv
            exact ⟨rfl, q _ F' H' z1 (P0.trans z2) z3⟩
      | _ => exact q.elim
    | exc k es' =>
      simp only [hf] at q
      cases es' with
      | nil => exact q.elim
      | cons d es' => cases es' with
        | cons _ _ => exact q.elim
        | nil =>
          intro F' H' S' P'
          obtain ⟨z1, z2, _⟩ := back rfl S' P'
          exact q F' H' z1 (P0.trans z2)
end
end Cq

set_option Elab.async false
set_option linter.all false
set_option maxRecDepth 100000
namespace Cq
open PySem PySem.Spec PyProof.Rows L2
def putN (n : Nat) (d : D) : List (Nat × D) → List (Nat × D)
  | [] => [(n, d)]
  | (m, e) :: r => if m = n then (m, d) :: r else (m, e) :: putN n d r
section
variable {K : Frag} {F H : Hp}
theorem look_none {m : Str} (hm : ∀ i : Nat, i < 5 → (m == fname i) = false) : ∀ {fv : List (Str × V)} {fs : List (Nat × D)}, okF fs = true → fv.map (·.1) = fs.map (fun p => fname p.1) → fv.lookup m = none
  | [], _, _, _ => rfl
  | _ :: _, [], _, h => by cases h
  | (k, v) :: fv, (n, e) :: fs, ok, h => by
    obtain ⟨o1, o2⟩ := okF_cons ok
    simp only [List.map_cons, List.cons.injEq] at h
    obtain ⟨h1, h2⟩ := h
    have c : (m == k) = false := by rw [h1]; exact hm n o1
    simp only [List.lookup_cons, c]
    exact look_none hm o2 h2
theorem FRw.ofF : ∀ {fv : List (Str × V)} {fs : List (Nat × D)}, FReps K F H fv fs → FRw K F fv fs
  | _, _, .nil => fun _ _ _ _ _ h => by cases h
  | _, _, .cons _ r t => FRw.cons (fun _ => r) (FRw.ofF t)
  | _, _, .past _ _ t => FRw.cons (n0 := 2) (fun z => absurd rfl z) (FRw.ofF t)
theorem putF_past {n : Nat} {v : V} {x : Addr} (hn : n ≠ 2) : ∀ {fv : List (Str × V)}, (("past" : Str), V.ref x) ∈ putF (fname n) v fv ↔ (("past" : Str), V.ref x) ∈ fv
  | [] => by
    unfold putF
    constructor
    · intro h
      have h := List.mem_singleton.mp h
      exact absurd (fname_past (Prod.mk.inj h).1.symm) hn
    · intro h; simp at h
  | (k, w) :: fv => by
    unfold putF
    by_cases c : k = fname n
    · rw [if_pos c]
      constructor
      · intro h
        rcases List.mem_cons.mp h with h | h
        · exact absurd (fname_past ((Prod.mk.inj h).1.trans c).symm) hn
        · exact List.mem_cons_of_mem _ h
      · intro h
        rcases List.mem_cons.mp h with h | h
        · exact absurd (fname_past ((Prod.mk.inj h).1.trans c).symm) hn
        · exact List.mem_cons_of_mem _ h
    · rw [if_neg c, List.mem_cons, List.mem_cons, putF_past hn]
theorem put_frep {n : Nat} {d : D} {v : V} (hn : n < 5) (h2 : n ≠ 2) (rv : Rep K F v d) {fv : List (Str × V)} {fs : List (Nat × D)} (ok : okF fs = true) (h : FReps K F H fv fs) : FReps K F H (putF (fname n) v fv) (putN n d fs) := by
  induction h with
  | nil => exact .cons h2 rv .nil
  | @cons m w e fv fs hm r t ih =>
    obtain ⟨o1, o2⟩ := okF_cons ok
    unfold putF putN
    by_cases c : m = n
    · subst c
      rw [if_pos rfl, if_pos rfl]
      exact .cons h2 rv t
    · rw [if_neg (fun z => c (fname_inj m n o1 hn z)), if_neg c]
      exact .cons hm r (ih o2)
  | @past p ws ps fv fs e r t ih =>
    obtain ⟨o1, o2⟩ := okF_cons ok
    unfold putF putN
    rw [if_neg (fun z : ("past" : Str) = fname n => h2 (fname_past z.symm)), if_neg (fun z => h2 z.symm)]
    exact .past e r (ih o2)
end
section
variable {X : Cx} {W : WX} {pos p apos : Pos} {σ : L2.St} {F H F0 H0 : Hp} {g g0 : Gm} {e o : Expr} {es : List Expr} {ma : M (List Hd)} {mo : M Hd} {x : Str} {u : Value}
theorem cell_ins {K : Frag} {a : Addr} {c : Nat} {fs : List (Nat × D)} (h : Cell K F H a (.ins c fs)) : ∃ dx fv, H a = some (.ins (ca K c) dx fv) ∧ fv.map (·.1) = fs.map (fun p => fname p.1) ∧ FRw K F fv fs := by
  obtain ⟨dx, fv, e, _, m, r⟩ := h
  exact ⟨dx, fv, e, m, .ofF r⟩
theorem rep_ins {K : Frag} {v : V} {c : Nat} {fs : List (Nat × D)} (s : Sub F H) (h : Rep K F v (.ins c fs)) : ∃ a dx fv, v = .ref a ∧ H a = some (.ins (ca K c) dx fv) ∧ fv.map (·.1) = fs.map (fun p => fname p.1) ∧ FRw K F fv fs := by
  cases h with
  | ins e _ m r => exact ⟨_, _, _, rfl, s _ _ e, m, .of m r⟩
theorem ins_at {K : Frag} {h : Hd} {v : V} {c : Nat} {fs : List (Nat × D)} (S : Sta K F g σ H) (r : HdR K F σ h v) (e : h.ins g = some (c, fs)) :
    ∃ a dx fv, v = .ref a ∧ H a = some (.ins (ca K c) dx fv) ∧ fv.map (·.1) = fs.map (fun p => fname p.1) ∧ FRw K F fv fs := by
  cases h with
  | va d =>
    cases d with
    | ins c' fs' => cases e; exact rep_ins S.sub r
    | _ => cases e
  | nm i =>
    have r : σ[i]? = some (some v) := r
    cases q : g[i]? with
    | none => simp only [Hd.ins, q] at e; cases e
    | some s =>
      have k := S.slot i s q
      simp only [Hd.ins, q] at e
      have e : s.ins = some (c, fs) := e
      have cell : ∀ {d : D}, d = .ins c fs → (∃ a, σ[i]? = some (some (V.ref a)) ∧ Cell K F H a d ∧ ∀ x, Foot H a x → F x = none) → ∃ a dx fv, v = .ref a ∧ H a = some (.ins (ca K c) dx fv) ∧ fv.map (·.1) = fs.map (fun p => fname p.1) ∧ FRw K F fv fs := fun {d} hd ⟨a, e1, cc, _⟩ => by
        subst hd
        rw [r] at e1; cases e1
        obtain ⟨dx, fv, z⟩ := cell_ins cc
        exact ⟨a, dx, fv, rfl, z⟩
      cases s with
      | un => cases e
      | im d =>
        cases d with
        | ins c' fs' =>
          cases e
          obtain ⟨w, e1, z⟩ := k
          rw [r] at e1; cases e1
          exact rep_ins S.sub z
        | _ => cases e
      | ro d =>
        cases d with
        | ins c' fs' =>
          cases e
          obtain ⟨w, e1, z⟩ := k
          rw [r] at e1; cases e1
          rcases z with z | ⟨a, rfl, cc, _⟩
          · exact rep_ins S.sub z
          · obtain ⟨dx, fv, z⟩ := cell_ins cc
            exact ⟨a, dx, fv, rfl, z⟩
        | _ => cases e
      | ow d => cases d with
        | ins c' fs' => cases e; exact cell rfl k
        | _ => cases e
      | mb d => cases d with
        | ins c' fs' => cases e; exact cell rfl k
        | _ => cases e
def mFld (cs : List Nat) (n : Nat) (h : Hd) : M D := fun g => match h.ins g with
  | some (c, fs) => (match cs.contains c && okF fs && decide (n < 5), fs.lookup n with
    | true, some d => some (.ok d g)
    | _, _ => none)
  | none => none
theorem se_fld {cs : List Nat} (n : Nat) (hC : ∀ c ∈ cs, Cls X.K (ca X.K c) ∧ NoAttr X.K (ca X.K c) (fname n)) (he : SO X W e mo) (hb : attributeBase e (fname n) X.env (eval e X.env) = eval e X.env := by rfl) (hn2 : n ≠ 2 := by decide) : SE X W (.Attribute e (fname n) pos) (mo.bind (mFld cs n)) :=
  PE_imp (pe_fld he hb) fun σ H Q q => by
  obtain ⟨F, g, S, q⟩ := q
  refine ⟨F, g, S, Pst_bind Stp.refl q fun h v F1 H1 g1 S1 P1 P01 r1 q1 => ?_⟩
  unfold mFld at q1
  cases hi : h.ins g1 with
  | none => simp only [hi] at q1; exact q1.elim
  | some cf =>
    obtain ⟨c, fs⟩ := cf
    simp only [hi] at q1
    cases b : cs.contains c && okF fs && decide (n < 5) with
    | false => simp only [b] at q1; exact q1.elim
    | true =>
      cases l : fs.lookup n with
      | none => simp only [b, l] at q1; exact q1.elim
      | some d =>
        simp only [b, l] at q1
        simp only [Bool.and_eq_true, decide_eq_true_eq] at b
        obtain ⟨⟨b1, b2⟩, b3⟩ := b
        obtain ⟨hc1, hc2⟩ := hC c (by simpa using b1)
        obtain ⟨a, dx, fv, rfl, ea, hm, hr⟩ := ins_at S1 r1 hi
        obtain ⟨w, lw, rw'⟩ := hr n d b3 hn2 b2 l
        exact ⟨a, ca X.K c, dx, fv, w, rfl, ea, hc1, hc2, lw, q1 _ F1 H1 S1 P01 rw'⟩
def mStF (cs : List Nat) (i n : Nat) (p : M D) : M Fl := p.bind fun d => fun g => match g[i]? with
  | some s => (match s.cell with
    | some (.ins c fs) => if (cs.contains c && okF fs && decide (n < 5) && decide (fs.length < 1000)) = true then some (.ok .nx (g.set i (s.put (.ins c (putN n d fs))))) else none
    | _ => none)
  | none => none
theorem ss_stF {cs : List Nat} {pm : M D} {pos' : Pos} (i n : Nat) (hC : ∀ c ∈ cs, Cls X.K (ca X.K c) ∧ NoAttr X.K (ca X.K c) (fname n)) (hN : X.N[i]? = some x) (hv : Vis X.env.scope x) (he : SE X W e pm)
    (hd : (x == ("__debug__" : Str)) = false := by decide) (hcd : (x == ("__classdict__" : Str)) = false := by decide) (hs : swapsWith e (some (.Attribute (.Name x p) (fname n) pos')) pos.line X.env = pure false := by rfl) (hn2 : n ≠ 2 := by decide) :
    SS X W (.Assign [.Attribute (.Name x p) (fname n) pos'] e pos) (mStF cs i n pm) := PS_imp (ps_fld (pe_var hN hv hd hcd) he hs) fun E σ H q => by
  obtain ⟨F, g, S, q⟩ := q
  refine ⟨F, g, S, Pst_stm Stp.refl q fun d v F1 H1 g1 S1 P1 P01 r1 q1 => ?_⟩
  cases gi : g1[i]? with
  | none => simp only [gi] at q1; exact q1.elim
  | some s =>
    simp only [gi] at q1
    cases sc : s.cell with
    | none => simp only [sc] at q1; exact q1.elim
    | some d0 =>
      simp only [sc] at q1
      cases d0 with
      | ins c fs =>
        by_cases b : (cs.contains c && okF fs && decide (n < 5) && decide (fs.length < 1000)) = true
        · simp only [if_pos b] at q1
          simp only [Bool.and_eq_true, decide_eq_true_eq] at b
          obtain ⟨⟨⟨b1, b2⟩, b3⟩, b4⟩ := b
          obtain ⟨hc1, hc2⟩ := hC c (by simpa using b1)
          have cg : (g1[i]?).bind Sl.cell = some (.ins c fs) := by rw [gi]; exact sc
          obtain ⟨a, ea, k, nn⟩ := S1.cell cg
          obtain ⟨dx, fv, e1, e2, hm, hr⟩ := k
          have hl : fv.length = fs.length := by
            have := congrArg List.length hm
            simpa using this
          have ne : dx ≠ a := fun z => by subst z; rw [e1] at e2; cases e2
          have z2 := put_frep b3 hn2 (show Rep X.K F1 v d from r1) b2 hr
          refine ⟨_, ea, a, ca X.K c, dx, fv, rfl, e1, hc1, hc2, by omega, ?_⟩
          obtain ⟨S2, P2⟩ := S1.wr (d' := .ins c (putN n d fs)) (o' := .ins (ca X.K c) dx (putF (fname n) v fv)) gi sc ea ⟨dx, _, upd_same, by rw [upd_ne ne]; exact e2, z2.names, z2.same (Sub.refl _) fun x o hx ho => by
              rw [upd_ne (fun z => ?_)]
              · exact ho
              · rw [z, e1] at ho
                obtain ⟨ws, hw⟩ := z2.foot hx
                rw [z, e1] at hw; cases hw⟩ (fun y f => by
            rcases f with f | ⟨C, dx0, fv', z, qf⟩
            · exact .inl f
            · rw [upd_same] at z; cases z; exact .inr ⟨_, _, _, e1, qf.imp id (putF_past hn2).mp⟩) (fun C dx' fv' z => by rw [e1] at z; cases z; exact ⟨_, rfl, fun x => (putF_past hn2).mpr⟩)
          exact q1 F1 σ _ S2 (P01.trans P2)
        · simp only [if_neg b] at q1; exact q1.elim
      | _ => exact q1.elim
def mCls (cs : List Nat) (h : Hd) : M Nat := fun g => match h.ins g with
  | some (c, fs) => if (cs.contains c && okF fs) = true then some (.ok c g) else none
  | none => none
theorem cls_cases {cs : List Nat} {h : Hd} {v : V} (S : Sta X.K F g σ H) (r : HdR X.K F σ h v) : mCls cs h g = none ∨ ∃ c a dx fv fs, mCls cs h g = some (.ok c g) ∧ c ∈ cs ∧ v = .ref a ∧ H a = some (.ins (ca X.K c) dx fv) ∧ okF fs = true ∧ fv.map (·.1) = fs.map (fun p => fname p.1) := by
  unfold mCls
  cases hi : h.ins g with
  | none => exact .inl rfl
  | some cf =>
    obtain ⟨c, fs⟩ := cf
    by_cases b : (cs.contains c && okF fs) = true
    · obtain ⟨a, dx, fv, ev, ea, hm, hr⟩ := ins_at S r hi
      simp only [if_pos b]
      simp only [Bool.and_eq_true] at b
      exact .inr ⟨c, a, dx, fv, fs, rfl, by simpa using b.1, ev, ea, b.2, hm⟩
    · exact .inl (by simp only [if_neg b])
theorem cls_ok {cs : List Nat} {h : Hd} {v : V} {γ δ : Type} {rel2 : Rl γ δ} {Q : δ → Hp → Prop} {k : Nat → M γ} {R : Prop} (S : Sta X.K F g σ H) (r : HdR X.K F σ h v) (q : Pst X.K W σ rel2 F0 H0 g0 Q (((mCls cs h).bind k) g))
    (go : ∀ c a dx fv fs, c ∈ cs → v = .ref a → H a = some (.ins (ca X.K c) dx fv) → okF fs = true → fv.map (·.1) = fs.map (fun p => fname p.1) → Pst X.K W σ rel2 F0 H0 g0 Q (k c g) → R) : R := by
  unfold M.bind at q
  rcases cls_cases (cs := cs) S r with h' | ⟨c, a, dx, fv, fs, h', z1, z2, z3, z4, z5⟩
  · rw [h'] at q; exact q.elim
  · rw [h'] at q; exact go c a dx fv fs z1 z2 z3 z4 z5 q
end
end Cq

set_option Elab.async false
set_option linter.all false
set_option maxRecDepth 100000
namespace Cq
open PySem PySem.Spec PyProof.Rows L2
section
variable {X : Cx} {W : WX} {pos p apos sp_ : Pos} {σ : L2.St} {F H F0 H0 : Hp} {g g0 : Gm} {e o : Expr} {es : List Expr} {ma : M (List Hd)} {mo : M Hd} {x : Str} {u : Value}
theorem mkS_ok {c : Nat} {f : Fn} {vs : List V} {ds : List D} {Q : VK} (S : Sta X.K F g σ H) (P0 : Stp F0 H0 g0 σ F H g σ) (r : Reps X.K F vs ds) (hl : ds.length ≤ 1000000) (q : Pst X.K W σ (relN X.K) F0 H0 g0 Q (mMk c f [.tup ds] g)) :
    spMk (ca X.K c) (spStar 1 (spF X.K [.mu, .im] f)) vs H Q (WE W σ) := by
  intro x dx hx hdx ne
  refine ⟨[.ref x], vs, rfl, rfl, by rw [r.length]; exact line_le hl, fun t ht => ?_⟩
  have tx : t ≠ x := fun z => by subst z; rw [upd_same] at ht; cases ht
  rw [upd_ne tx] at ht
  have td : t ≠ dx := fun z => by subst z; rw [upd_same] at ht; cases ht
  rw [upd_ne td] at ht
  have A := Al.mk1 (o := HO.tup vs) S.sub ht
  obtain ⟨S1, P1⟩ := S.al A
  have := mk_ok (vs := [.ref t]) (ds := [.tup ds]) S1 (P0.trans P1) (.cons (.tup (.inl (.inl upd_same)) (r.mono A.fg)) .nil) q x dx (by rw [upd_ne tx.symm]; exact hx) (by rw [upd_ne td.symm]; exact hdx) ne
  have e : upd (upd (upd H dx (.own x)) x (.ins (ca X.K c) dx [])) t (.tup vs) = upd (upd (upd H t (.tup vs)) dx (.own x)) x (.ins (ca X.K c) dx []) := by
    funext y
    by_cases h1 : y = t
    · subst h1; rw [upd_same, upd_ne tx, upd_ne td, upd_same]
    · rw [upd_ne h1]
      by_cases h2 : y = x
      · subst h2; rw [upd_same, upd_same]
      · rw [upd_ne h2, upd_ne h2]
        by_cases h3 : y = dx
        · subst h3; rw [upd_same, upd_same]
        · rw [upd_ne h3, upd_ne h3, upd_ne h1]
  rw [e]
  exact this
def seqL : D → Option (List D)
  | .tup xs => some xs
  | .lst xs => some xs
  | _ => none
theorem seq_at {K : Frag} {v : V} {d : D} {ds : List D} (s : Sub F H) (r : Rep K F v d) (h : seqL d = some ds) : ∃ a vs, v = .ref a ∧ (SqT K H a vs ∨ SqL K H a vs) ∧ Reps K F vs ds := by
  cases r with
  | tup e r => cases h; exact ⟨_, _, rfl, .inl (s.tup e), r⟩
  | lst e r => cases h; exact ⟨_, _, rfl, .inr (.inl (.inl (s _ _ e))), r⟩
  | _ => cases h
/-- x(*y), x a local name that holds the value u -/
theorem pe_calLS {sp : Sp} {te : TE} {i : Nat} (C : CalR X W (.ref (ca X.K i)) sp) (j : Nat) (hN : X.N[j]? = some x) (hv : Vis X.env.scope x) (hk : PySem.W.keepIn X.K (.ref (ca X.K i)) = true) (he : PE X e te) (hd : (x == ("__debug__" : Str)) = false := by decide) (hcd : (x == ("__classdict__" : Str)) = false := by decide)
    (hst : starEach [.Starred e sp_] X.env = [(true, eval e X.env)] := by rfl) :
    PE X (.Call (.Name x p) [.Starred e sp_] [] pos) (fun σ H Q => σ[j]? = some (some (.ref (ca X.K i))) ∧ te σ H fun y H1 => ∃ a xs, y = V.ref a ∧ (SqT X.K H1 a xs ∨ SqL X.K H1 a xs) ∧ sp xs H1 Q (WE W σ)) := by
  refine ⟨fun pins s σ H Q I h => ?_⟩
  obtain ⟨h1, h2⟩ := h
  refine wpAny_Call_Name_kw (thn ((pe_var (X := X) (pos := p) hN hv hd hcd).run pins s σ H (fun v H' => v = .ref (ca X.K i) ∧ H' = H) I ⟨_, h1, rfl, rfl⟩) fun v0 s0 ⟨y0, H0, I0, ry0, ey0, eH0⟩ => ?_)
  subst ey0; subst eH0
  obtain rfl : v0 = Value.ref (ca X.K i) := ry0
  refine PySem.W.callWith_S (h₀ := X.base) I.ok.mod.kin hk (thn (he.run pins s0 σ H0 _ I0 h2) fun v s1 ⟨y, H1, I1, ry, a, xs, ey, hxs, q⟩ => ?_) hst
  subst ey
  obtain rfl : v = Value.ref a := ry
  exact StX.star_any I1 hxs fun us s2 I2 rv => ⟨I2.kIn, C pins s2 σ H1 us xs Q I2 rv q⟩
def mMkS (c : Nat) (f : Fn) (m : M D) : M D := m.bind fun d => match seqL d with
  | some ds => if ds.length ≤ 1000000 then mMk c f [.tup ds] else M.fail
  | none => M.fail
theorem mkS_go {c : Nat} {f : Fn} {d : D} {v : V} {Q : VK} (S : Sta X.K F g σ H) (P0 : Stp F0 H0 g0 σ F H g σ) (r : Rep X.K F v d) (q : Pst X.K W σ (relN X.K) F0 H0 g0 Q ((match seqL d with
  | some ds => if ds.length ≤ 1000000 then mMk c f [.tup ds] else M.fail
  | none => M.fail : M D) g)) : ∃ a xs, v = V.ref a ∧ (SqT X.K H a xs ∨ SqL X.K H a xs) ∧ spMk (ca X.K c) (spStar 1 (spF X.K [.mu, .im] f)) xs H Q (WE W σ) := by
  cases o : seqL d with
  | none => rw [o] at q; exact q.elim
  | some ds =>
    rw [o] at q
    have q : Pst X.K W σ (relN X.K) F0 H0 g0 Q ((if ds.length ≤ 1000000 then mMk c f [.tup ds] else M.fail) g) := q
    by_cases l : ds.length ≤ 1000000
    · rw [if_pos l] at q
      obtain ⟨a, vs, ev, sq, rs⟩ := seq_at S.sub r o
      exact ⟨a, vs, ev, sq, mkS_ok S P0 rs l q⟩
    · rw [if_neg l] at q; exact q.elim
def mGlo (j c : Nat) : M Unit := fun g => match g[j]? with
  | some (.im (.glo c')) => if c' = c then some (.ok () g) else none
  | _ => none
theorem sn_mkLS {c : Nat} {f : Fn} {m : M D} (C : CalR X W (.ref (ca X.K c)) (spMk (ca X.K c) (spStar 1 (spF X.K [.mu, .im] f)))) (j : Nat) (hN : X.N[j]? = some x) (hv : Vis X.env.scope x) (hk : PySem.W.keepIn X.K (.ref (ca X.K c)) = true) (he : SE X W e m) (hd : (x == ("__debug__" : Str)) = false := by decide) (hcd : (x == ("__classdict__" : Str)) = false := by decide)
    (hst : starEach [.Starred e sp_] X.env = [(true, eval e X.env)] := by rfl) : SN X W (.Call (.Name x p) [.Starred e sp_] [] pos) ((mGlo j c).bind fun _ => mMkS c f m) :=
  PE_imp (pe_calLS C j hN hv hk he hd hcd hst) fun σ H Q q => by
    obtain ⟨F, g, S, q⟩ := q
    unfold M.bind mGlo at q
    cases e : g[j]? with
    | none => simp only [e] at q; exact q.elim
    | some s =>
      simp only [e] at q
      cases s with
      | im d =>
        cases d with
        | glo c' =>
          by_cases h : c' = c
          · simp only [if_pos h] at q
            subst h
            obtain ⟨v, e1, r⟩ := S.slot j _ e
            cases r
            exact ⟨e1, F, g, S, Pst_bind Stp.refl q fun d v F1 H1 g1 S1 P1 P01 r1 q1 => mkS_go S1 P01 r1 q1⟩
          · simp only [if_neg h] at q; exact q.elim
        | _ => exact q.elim
      | _ => exact q.elim
theorem pe_propC {k : Nat} {te : TE} {f : Str} {sp : Nat → Sp} {cs : List Nat} (he : PE X e te)
    (hp : ∀ c ∈ cs, ∃ pa ga, Cls X.K (ca X.K c) ∧ PropOf X.K (ca X.K c) f pa ga ∧ FnR X.prog X.w X.K X.mg X.base (L2.CX X.prog X.w) k ga (sp c)) (hr : Room (k + 1) X.A)
    (hab : attributeBase e f X.env (eval e X.env) = eval e X.env := by rfl) : PE X (.Attribute e f pos) (fun σ H Q => te σ H fun x H1 => ∃ c a dx fs, c ∈ cs ∧ x = .ref a ∧ H1 a = some (.ins (ca X.K c) dx fs) ∧ sp c [.ref a] H1 Q (fun _ _ _ => False)) := by
  refine ⟨fun pins s σ H Q I h => ?_⟩
  refine attr_of hab (thn (he.run pins s σ H _ I h) fun u s1 ⟨x, H1, I, rx, c, a, dx, fs, hc, ex, ea, h⟩ => ?_)
  subst ex
  obtain rfl : u = Value.ref a := rx
  obtain ⟨pa, ga, cl, hp, F⟩ := hp c hc
  obtain ⟨mA, O, _, _, _, _⟩ := ins_get I.hok ea
  obtain ⟨od, J, _⟩ := O.look
  obtain ⟨rest, hrec⟩ := hp.rec_
  have I1 := I.tok (s1.toks + 1)
  have hcl : (PySem.W.clsIn X.K (ca X.K c)).isSome = true := by
    obtain ⟨cd, hc, _⟩ := PySem.W.any_some cl.hd
    rw [hc]
    rfl
  refine PySem.W.get_bind I.kIn J (PySem.W.plainGet_of (cl.get f)).1 (PySem.W.findObj_data hcl hp.at_ hp.get hp.tak) (PySem.W.plainGet_of (cl.get f)).2 (wpAny_call (PySem.W.prop_get (s := { s1 with toks := s1.toks + 1 }) I.kIn hrec ?_))
  refine codeAny_mono (F X.A.in1 X.stack { s1 with toks := s1.toks + 1 } H1 [.ref a] [.ref a] Q (fun _ _ _ => False) hr.in1 I1.env0.in1 (.cons rfl .nil) h) fun r s' hq => ?_
  cases r with
  | error er => exact (passAt (X := X.nox) (W := W0) takes0 σ pins H1 { s1 with toks := s1.toks + 1 } er s' (I1.wish _) hq).elim
  | ok fl =>
    cases fl with
    | ret u =>
      obtain ⟨v, H', I3, rv, q3⟩ := I1.after hq
      show wpAny _ _ (handedOut u) _ _ _
      rw [PySem.W.handedOut_of (handed_of rv)]
      exact wpAny_pure ⟨v, H', I3, rv, q3⟩
    | next => exact False.elim hq
    | brk => exact False.elim hq
    | cont => exact False.elim hq
def noEx {α : Type} (m : M α) : M α := fun g => match m g with
  | some (.ex _ _) => none
  | o => o
theorem noEx_ok {α β : Type} {rel : Rl α β} {Q : β → Hp → Prop} {m : M α} (q : Pst X.K W σ rel F0 H0 g0 Q (noEx m g)) : Pst X.K W0 σ rel F0 H0 g0 Q (m g) := by
  unfold noEx at q
  cases o : m g with
  | none => rw [o] at q; exact q
  | some r => cases r with
    | ok a g1 => rw [o] at q; exact q
    | ex c g1 => rw [o] at q; exact q.elim
def mProp (cs : List Nat) (md : Md) (f : Nat → Fn) (h : Hd) : M D := (mCls cs h).bind fun c => noEx (mCallF [md] (f c) [h])
theorem se_prop {k : Nat} {n : Str} {cs : List Nat} {md : Md} {f : Nat → Fn} (he : SO X W e mo)
    (hp : ∀ c ∈ cs, ∃ pa ga, Cls X.K (ca X.K c) ∧ PropOf X.K (ca X.K c) n pa ga ∧ FnR X.prog X.w X.K X.mg X.base (L2.CX X.prog X.w) k ga (spF X.K [md] (f c))) (hr : Room (k + 1) X.A)
    (hab : attributeBase e n X.env (eval e X.env) = eval e X.env := by rfl) : SE X W (.Attribute e n pos) (mo.bind (mProp cs md f)) :=
  PE_imp (pe_propC (sp := fun c => spF X.K [md] (f c)) he hp hr hab) fun σ H Q q => by
    obtain ⟨F, g, S, q⟩ := q
    refine ⟨F, g, S, Pst_bind Stp.refl q fun h v F1 H1 g1 S1 P1 P01 r1 q1 => ?_⟩
    refine cls_ok S1 r1 q1 fun c a dx fv fs z1 z2 z3 _ _ q2 => ⟨c, a, dx, fv, z1, z2, z3, ?_⟩
    subst z2
    have := callF_ok (W := W0) (ms := [md]) (f := f c) (hs := [h]) (vs := [.ref a]) S1 P01 (.cons r1 .nil) (noEx_ok q2)
    exact this
theorem pe_methC0 {te : TE} {m : Str} {cs : List Nat} {sp : Nat → Sp} {pl : Sem Bool} (he : PE X o te)
    (hp : ∀ c ∈ cs, ∃ fa, Cls X.K (ca X.K c) ∧ Meth X.K (ca X.K c) m fa ∧ CodR X W fa (sp c))
    (ht : eval (.Call (.Attribute o m apos) [] [] pos) X.env = (do
      let ov ← eval o X.env
      standAt apos.atName
      let (f, first) ← holding [ov] (getMethod ov m pl)
      callWith pos f first (backTo pos (starEach [] X.env)) (backToKw pos (keywordEach [] X.env))) := by rfl) :
    PE X (.Call (.Attribute o m apos) [] [] pos) (fun σ H Q => te σ H fun x H1 => ∃ c a dx fs, c ∈ cs ∧ x = .ref a ∧ H1 a = some (.ins (ca X.K c) dx fs) ∧ fs.lookup m = none ∧ sp c [.ref a] H1 Q (WE W σ)) := by
  refine ⟨fun pins s σ H Q I h => ?_⟩
  refine PySem.W.methodCall_KW (pl := pl) (thn (he.run pins s σ H _ I h) fun u s1 ⟨x, H1, I1, rx, c, a, dx, fs, hc, ex, ea, l, q⟩ => ?_) ht
  subst ex
  obtain rfl : u = Value.ref a := rx
  obtain ⟨fa, cl, hm, F⟩ := hp c hc
  refine getmeth_ok I1 ea cl hm l ?_
  exact PySem.W.callWith_K0 (first := [.ref a]) I1.kIn hm.kp (wpAny_call (F pins s1 σ H1 [.ref a] [.ref a] Q I1 (.cons rfl .nil) q))
def mMth0 (cs : List Nat) (ms : List Md) (f : Nat → Fn) (h : Hd) : M D := (mCls cs h).bind fun c => mCallF ms (f c) [h]
theorem se_meth0 {m : Str} {cs : List Nat} {ms : List Md} {f : Nat → Fn} {pl : Sem Bool} (he : SO X W o mo)
    (hp : ∀ c ∈ cs, ∃ fa, Cls X.K (ca X.K c) ∧ Meth X.K (ca X.K c) m fa ∧ CodR X W fa (spF X.K ms (f c))) (hm : ∀ i : Nat, i < 5 → (m == fname i) = false)
    (ht : eval (.Call (.Attribute o m apos) [] [] pos) X.env = (do
      let ov ← eval o X.env
      standAt apos.atName
      let (f, first) ← holding [ov] (getMethod ov m pl)
      callWith pos f first (backTo pos (starEach [] X.env)) (backToKw pos (keywordEach [] X.env))) := by rfl) :
    SE X W (.Call (.Attribute o m apos) [] [] pos) (mo.bind (mMth0 cs ms f)) :=
  PE_imp (pe_methC0 (sp := fun c => spF X.K ms (f c)) he hp ht) fun σ H Q q => by
    obtain ⟨F, g, S, q⟩ := q
    refine ⟨F, g, S, Pst_bind Stp.refl q fun h v F1 H1 g1 S1 P1 P01 r1 q1 => ?_⟩
    refine cls_ok S1 r1 q1 fun c a dx fv fs z1 z2 z3 z4 z5 q2 => ⟨c, a, dx, fv, z1, z2, z3, look_none hm z4 z5, ?_⟩
    subst z2
    exact callF_ok S1 P01 (.cons r1 .nil) q2
theorem pe_cmethC {C pa ga : Addr} {mc : Value} {te : TE} {t : TA} {m : Str} {sp : Sp} {pl : Sem Bool} (he : PE X o te) (r : ClX.CRead X.K C mc) (c : ClX.CMet X.K C mc m pa ga) (F : CodR X W ga sp) (ha : PA X (e :: es) t)
    (hst : starEach (e :: es) X.env = (false, eval e X.env) :: starEach es X.env := by rfl) (hpl : (backTo pos (starEach es X.env)).any (·.1) = false := by rfl)
    (ht : eval (.Call (.Attribute o m apos) (e :: es) [] pos) X.env = (do
      let ov ← eval o X.env
      standAt apos.atName
      let (f, first) ← holding [ov] (getMethod ov m pl)
      callWith pos f first (backTo pos (starEach (e :: es) X.env)) (backToKw pos (keywordEach [] X.env))) := by rfl) :
    PE X (.Call (.Attribute o m apos) (e :: es) [] pos) (fun σ H Q => te σ H fun x H1 => x = .ref C ∧ t σ H1 fun vs H2 => sp (.ref C :: vs) H2 Q (WE W σ)) := by
  refine ⟨fun pins s σ H Q I h => ?_⟩
  refine PySem.W.methodCall_KW (pl := pl) (thn (he.run pins s σ H _ I h) fun u s1 ⟨x, H1, I1, rx, ex, q⟩ => ?_) ht
  subst ex
  obtain rfl : u = Value.ref C := rx
  refine ClX.getmethcm_ok I1 r c fun s2 I2 => ?_
  refine ClX.callwith_cm I2 (ClX.base_none I1 (Nat.le_refl _)) c.fi (thn (ha.run pos _ s2 σ H1 _ I2 q) fun us s3 ⟨vs, H2, I3, rv, q2⟩ => ⟨⟨ClX.pin_at I3, I3.kIn⟩, ?_⟩) hst hpl
  have z : wpAny (model X.prog X.w) X.A (call (.ref _) us) (EP X _ σ Q) X.xe s3 := wpAny_call (PySem.W.method_call (ClX.pin_at I3) (F _ s3 σ H2 (.ref C :: us) (.ref C :: vs) Q I3 (.cons rfl rv) q2))
  exact thn z fun _ _ y => ClX.unpinE y
/-- C.m(e, ..), C a class of the module by its name -/
theorem se_cmeth {c : Nat} {pa ga : Addr} {mc : Value} {m : Str} {ms : List Md} {f : Fn} {pl : Sem Bool} {p : Pos} (hg : Gl X x) (hm : X.mg x = some (.ref (ca X.K c))) (r : ClX.CRead X.K (ca X.K c) mc) (cm : ClX.CMet X.K (ca X.K c) mc m pa ga) (F : CodR X W ga (spF X.K ms f)) (ha : SA X W (e :: es) ma) (hd : (x == ("__debug__" : Str)) = false := by decide)
    (hst : starEach (e :: es) X.env = (false, eval e X.env) :: starEach es X.env := by rfl) (hpl : (backTo pos (starEach es X.env)).any (·.1) = false := by rfl)
    (ht : eval (.Call (.Attribute (.Name x p) m apos) (e :: es) [] pos) X.env = (do
      let ov ← eval (.Name x p) X.env
      standAt apos.atName
      let (f, first) ← holding [ov] (getMethod ov m pl)
      callWith pos f first (backTo pos (starEach (e :: es) X.env)) (backToKw pos (keywordEach [] X.env))) := by rfl) :
    SE X W (.Call (.Attribute (.Name x p) m apos) (e :: es) [] pos) (ma.bind fun hs => mCallF ms f (.va (.glo c) :: hs)) :=
  PE_imp (pe_cmethC (pe_glob hg hm (v := .ref (ca X.K c)) rfl hd) r cm F ha hst hpl ht) fun σ H Q q => by
    obtain ⟨F, g, S, q⟩ := q
    refine ⟨rfl, F, g, S, Pst_bind Stp.refl q fun hs vs F1 H1 g1 S1 P1 P01 r1 q1 => ?_⟩
    exact callF_ok S1 P01 (.cons (show HdR X.K F1 σ (.va (.glo c)) (.ref (ca X.K c)) from Rep.glo c) r1) q1
end
end Cq

set_option Elab.async false
set_option linter.all false
set_option maxRecDepth 100000
namespace Cq
open PySem PySem.Spec PyProof.Rows L2
theorem obsPG_eq {n : Nat} {fa : List Tst} {fn : List He5.DefA} {g : Addr → Option Obj} {s : Shared} (h : ∀ a, g a = s.heap.get? a) : obsPG n fa fn g = (hookP n fa fn).obs s := by
  rw [show g = s.heap.get? from funext h] <;> rfl
section
variable {fa : List Tst} {fn : List He5.DefA} {K : Frag}
theorem SaysP.fact (c : SaysP fa fn K) (i : Nat) {f : Tst} (h : fa[i]? = some f := by rfl) : f K = true :=
  List.all_eq_true.mp (He.ba (congrArg (fun z : He.AlD => z.1) c : ((fa.all fun f => f K) && fn.all fun d => d.ok K) = true)).1 f (List.mem_of_getElem? h)
theorem SaysP.def_ (c : SaysP fa fn K) (i : Nat) {d : He5.DefA} (h : fn[i]? = some d := by rfl) : ∃ fd, FunD K d.name d.qual d.params d.body d.scope (d.dvs K) (d.kws K) (d.at_ K) fd := by
  have c2 := (He.ba (congrArg (fun z : He.AlD => z.1) c : ((fa.all fun f => f K) && fn.all fun d => d.ok K) = true)).2
  have e : fn.map (fun d => He5.fnA K (d.at_ K)) = fn.map He5.DefA.val := congrArg (fun z : He.AlD => z.2) c
  have e2 : (fn.map fun d => He5.fnA K (d.at_ K))[i]? = (fn.map He5.DefA.val)[i]? := by rw [e]
  rw [List.getElem?_map, List.getElem?_map, h] at e2
  exact He5.DefA.funD (Option.some.inj e2) (List.all_eq_true.mp c2 d (List.mem_of_getElem? h))
end
theorem propOf_ok {K : Frag} {c : Nat} {f : Str} (h : tPropOf c f K = true) : PropOf K (ca K c) f (He.ma K (ca K c) f) (pga K (ca K c) f) := by
  obtain ⟨h1, h⟩ := He.ba h
  obtain ⟨h2, h⟩ := He.ba h
  obtain ⟨h3, h4⟩ := He.ba h
  refine ⟨He.eqO_ok h1, He.eqO_ok h2, of_decide_eq_true h3, ?_⟩
  unfold pga He5.wf
  cases e : PySem.W.recIn K (He.ma K (ca K c) f) "property" with
  | none => rw [e] at h4; cases h4
  | some l =>
    rw [e] at h4
    cases l with
    | nil => cases h4
    | cons v r => cases v with
      | ref a => exact ⟨r, rfl⟩
      | _ => cases h4
theorem cmet_ok {K : Frag} {c : Nat} {m : Str} (h : tCMet c m K = true) : ClX.CRead K (ca K c) (.type "type") ∧ ClX.CMet K (ca K c) (.type "type") m (He.ma K (ca K c) m) (cma K (ca K c) m) := by
  obtain ⟨h1, h⟩ := He.ba h
  obtain ⟨h2, h⟩ := He.ba h
  obtain ⟨h3, h4⟩ := He.ba h
  exact ⟨⟨h3, He.eqO_ok h4⟩, He5.cmet_of h1 h2⟩
theorem insC_ok {K : Frag} {c : Nat} (h : tInsC c K = true) : InsC K c := by
  obtain ⟨h1, h⟩ := He.ba h
  obtain ⟨h2, h⟩ := He.ba h
  obtain ⟨h3, h⟩ := He.ba h
  obtain ⟨h4, h5⟩ := He.ba h
  exact ⟨He.cls_ok h1, He.eqO_ok h2, He.eqO_ok h3, of_decide_eq_true h4, of_decide_eq_true h5⟩
theorem kit_ok {K : Frag} {cs : List Nat} {T : Ty} (h : tKit cs T K = true) : KitOk K cs T := by
  obtain ⟨h1, h⟩ := He.ba h
  obtain ⟨h2, h⟩ := He.ba h
  obtain ⟨h3, h⟩ := He.ba h
  obtain ⟨h4, h⟩ := He.ba h
  obtain ⟨h5, h⟩ := He.ba h
  obtain ⟨h6, h⟩ := He.ba h
  obtain ⟨h7, h8⟩ := He.ba h
  refine ⟨of_decide_eq_true h1, of_decide_eq_true h2, of_decide_eq_true h3, of_decide_eq_true h4, of_decide_eq_true h5, of_decide_eq_true h6, of_decide_eq_true h7, fun c hc => ?_⟩
  obtain ⟨k1, k2⟩ := He.ba (List.all_eq_true.mp h8 c hc)
  exact ⟨insC_ok k1, of_decide_eq_true k2⟩
end Cq

set_option Elab.async false
set_option linter.all false
set_option maxRecDepth 100000
namespace Cq
open PySem PySem.Spec PyProof.Rows L2
abbrev mVa (m : M D) : M Hd := m.bind fun d => M.ret (.va d)
abbrev mFz (i : Nat) : M D := (mNm i).bind mFrz
section
variable {X : Cx} {W : WX} {pos p : Pos} {x : Str}
theorem se_gint {i : Int} (hg : Gl X x) (h : ∃ t, X.mg x = some (.int i t)) (hd : (x == ("__debug__" : Str)) = false := by decide) : SE X W (.Name x pos) (M.ret (.int i)) := by
  obtain ⟨t, h⟩ := h
  exact se_glob hg h (v := .int i) ⟨t, rfl⟩ (fun _ => .int i) hd
theorem se_gstr {z : Str} (hg : Gl X x) (h : ∃ t, X.mg x = some (.str z t)) (hd : (x == ("__debug__" : Str)) = false := by decide) : SE X W (.Name x pos) (M.ret (.str z)) := by
  obtain ⟨t, h⟩ := h
  exact se_glob hg h (v := .str z) ⟨t, rfl⟩ (fun _ => .str z) hd
theorem reps_dv {K : Frag} {F : Hp} : ∀ xs : List Str, Reps K F ((xs.map He.Dv.str).map (He.Dv.v K)) (xs.map D.str)
  | [] => .nil
  | x :: xs => .cons (.str x) (reps_dv xs)
theorem se_gtup {xs : List Str} (hg : Gl X x) (h : tTup x (xs.map He.Dv.str) X.K = true) (hm : X.mg x = some (.ref (He.ga X.K x))) (hd : (x == ("__debug__" : Str)) = false := by decide) : SE X W (.Name x pos) (M.ret (.tup (xs.map .str))) :=
  se_glob hg hm (v := .ref (He.ga X.K x)) rfl (fun F => .tup (He.tupB_ok (He.ba h).2 F) (reps_dv xs)) hd
theorem te_ty {T : String} (hg : Gl X x) (hm : X.mg x = none) (hv : bootBuiltins x = some (.type T)) (hn : x ≠ "__name__" := by decide) (hd : (x == ("__debug__" : Str)) = false := by decide) : PE X (.Name x pos) (tC (.ty T)) := ⟨fun pins s σ H Q I h => ld_blt I hg hm hv ⟨.ty T, H, I, rfl, h⟩ hn hd⟩
end
theorem _root_.L2.Room.u65 {k : Nat} {A : Around} (r : Room k A) : A.units + 65 < cLine := by have := r.un; omega
section
variable {P : Program} {w : World} {K : Frag} {mg : Str → Option Value} {base : Heap} {x qual : Str} {params : Arguments} {body : List Stmt} {scope : Scope} {f : Addr} {fd : FuncData}
/-- a def with a star parameter -/
theorem fnr_star {k : Nat} {N ps : List Str} {pv : Str} {ms : List Md} {m : M Fl} (F : FunD K x qual params body scope [] [] f fd) (S : FnScope N (ps ++ [pv]) scope) (hl : ms.length = ps.length + 1)
    (hb : ∀ (kV doc pm : Value) (an : Option Addr) (cdv ct : Value) (us rest : List Value), us.length = ps.length → bindArgs (PySem.W.fnOf x qual params body scope .none kV doc pm an cdv ct) ⟨us ++ rest, []⟩ = (newTuple rest >>= fun t => pure (ps.zip us ++ [(pv, t)])))
    (hbody : ∀ (cdv : Value) (A : Around) (outer : List PySem.Env) (s : Shared) (H : Hp) (E : XK), Room k (A.deeper (envOfC qual scope s.heap.objs.size f cdv)) → Takes (cxOf (L2.CX P w) P w K mg base N qual scope f cdv A outer s H E) (wE E) →
      PassesOwn (model P w) (A.deeper (envOfC qual scope s.heap.objs.size f cdv)) (envOfC qual scope s.heap.objs.size f cdv) (cxOf (L2.CX P w) P w K mg base N qual scope f cdv A outer s H E).xe →
      SSs (cxOf (L2.CX P w) P w K mg base N qual scope f cdv A outer s H E) (wE E) body m) :
    FnR P w K mg base (L2.CX P w) (k + 1) f (spStar ps.length (spF K ms (runDef ms N.length m))) := by
  obtain ⟨oc, od, dV, kV, doc, pm, an, cdv, ct, osl, rfl, lk, hcd, hdf, _⟩ := F.ex
  have hdV : dV = .none := by
    rcases hdf with ⟨_, e⟩ | ⟨e, _⟩
    · exact e
    · exact absurd rfl e
  subst hdV
  refine StX.fn_star (ps := ps) (sp := spF K ms (runDef ms N.length m)) lk hcd S StX.cxUp (hb kV doc pm an cdv ct) fun A outer s H vs Q E hr h => ⟨_, hbody cdv A outer s H E hr (takes_of rfl rfl rfl rfl) (passes_of rfl), ?_⟩
  have l : vs.length = ms.length := by obtain ⟨_, _, _, l, _⟩ := h; exact l
  have e : start N vs = vs.map some ++ List.replicate (N.length - ms.length) none := by
    unfold L2.start
    rw [l]
  rw [e]
  exact def_reads (fun _ _ _ z => z) h
end
end Cq

set_option Elab.async false
set_option linter.all false
set_option maxRecDepth 100000
namespace Cq
open PySem PySem.Spec PyProof.Rows L2
section
variable {X : Cx} {W : WX} {pos : Pos} {σ : L2.St} {F H F0 H0 : Hp} {g g0 : Gm}
/-- a value with a datum other than None is not None -/
theorem RoV.nonI {K : Frag} {v : V} {d : D} (r : RoV K F H v d) (h : v = .non) : d = .non := by
  subst h
  rcases r with r | ⟨a, e, c, _⟩
  · cases r; rfl
  · cases e
theorem dIsN_some {d e z : D} (h : dIsN d e = some z) : e = .non ∧ ((d = .non ∧ z = .bl true) ∨ (d ≠ .non ∧ z = .bl false)) := by
  cases e with
  | non => refine ⟨rfl, ?_⟩; cases d <;> simp [dIsN] at h ⊢ <;> first | exact h.symm | exact absurd h id | skip
  | _ => cases d <;> simp [dIsN] at h
theorem ow_isN : OpR X (compareOp .Is) (rD2 X.K dIsN) := by
  refine opD op_isN fun x y H Q ⟨F, d, e, z, s, r1, r2, h, q⟩ => ?_
  obtain ⟨rfl, hz⟩ := dIsN_some h; clear h
  have e2 := r2.non
  refine ⟨e2, ?_⟩
  have k := q (.bl (decide (x = .non))) F H (Al.refl s)
  rcases hz with ⟨rfl, rfl⟩ | ⟨n, rfl⟩
  · rw [decide_eq_true r1.non] at k ⊢; exact k (.bl _)
  · rw [decide_eq_false (fun h => n (r1.nonI h))] at k ⊢; exact k (.bl _)
def fLower : D → List D → Option D
  | .str a, [] => if a.length ≤ 1000000 then some (.str (Txt.lower a)) else none
  | _, _ => none
theorem mw_lower : MtR X "str.lower" (rDm X.K fLower) := by
  refine mtD mt_lower fun x xs H Q ⟨F, ds, z, s, r, h, q⟩ => ?_
  obtain ⟨d, es, rfl, r0, rs⟩ := rovs_cons r
  cases d with
  | str a => cases es with
    | nil =>
      have h : (if a.length ≤ 1000000 then some (D.str (Txt.lower a)) else none) = some z := h
      by_cases c : a.length ≤ 1000000
      · rw [if_pos c] at h; cases h
        cases r0.str
        cases rs
        exact ⟨a, rfl, rfl, Nat.le_trans c (by decide), q _ F H (Al.refl s) (.str _)⟩
      · rw [if_neg c] at h; cases h
    | cons _ _ => cases h
  | _ => cases h
end
end Cq

set_option Elab.async false
set_option linter.all false
set_option maxRecDepth 100000
namespace Cq
open PySem PySem.Spec PyProof.Rows L2
section
variable {X : Cx} {W : WX} {pos p p2 pos' : Pos} {σ : L2.St} {F H F0 H0 : Hp} {g g0 : Gm} {x : Str}
def mRaise (c : Nat) : M Fl := fun g => some (.ex c g)
theorem ss_raise {m : Str} {j : Nat} {bmB : List Value} {B newId initId : String} (c : Nat) (hc : X.calm = true) (tk : Takes X W) (F : ExcBaseFacts B newId initId bmB) (q : PySem.W.excIn X.K (ca X.K c) bmB newId = true) (gC : X.mg x = some (.ref (ca X.K c))) (kC : PySem.W.keepIn X.K (.ref (ca X.K c)) = true) (r : Raises X (.ref (ca X.K c))) (hg : Gl X x)
    (hdb : (x == ("__debug__" : Str)) = false := by decide) : SS X W (.Raise (some (.Call (.Name x p) [.Constant (.str m) j p2] [] pos)) none pos') (mRaise c) :=
  PS_imp (ps_raise hc tk (pmk_own F q gC kC r hg hdb)) fun E σ H q => by
  obtain ⟨F, g, S, q⟩ := q
  exact q F σ H S Stp.refl
def noExS (m : M Fl) : M Fl := fun g => match m g with
  | some (.ex _ _) => none
  | o => o
def mHand (c : Nat) : List (Nat × M Fl) → M Fl
  | [] => fun g => some (.ex c g)
  | (x, m) :: r => if subE c x = true then noExS m else mHand c r
/-- cs: the exceptions that are known -/
def mTry (cs : List Nat) (m : M Fl) (hs : List (Nat × M Fl)) : M Fl := fun g => match m g with
  | some (.ex c g') => if cs.contains c = true then mHand c hs g' else none
  | o => o
theorem noExS_ok {E : Ends} {m : M Fl} (q : PstS X.K W F0 H0 g0 σ E (noExS m g)) : PstS X.K W0 F0 H0 g0 σ E (m g) := by
  unfold noExS at q
  cases o : m g with
  | none => rw [o] at q; exact q
  | some r => cases r with
    | ok f g1 => rw [o] at q; cases f <;> exact q
    | ex c g1 => rw [o] at q; exact q.elim
def tsOf (K : Frag) (hs : List (Nat × M Fl)) : List (Value × (Addr → Value → Option Addr → TS)) := hs.map fun h => (exv K h.1, fun _ _ _ => tS K W0 h.2)
theorem hand_ok {E : Ends} {c : Nat} : ∀ {hs : List (Nat × M Fl)}, (∀ h ∈ hs, PySem.W.exmOne X.K (exv X.K c) (exv X.K h.1) = some (subE c h.1)) → Sta X.K F g σ H → PstS X.K W F H g σ E (mHand c hs g) → wMany X.K W E (tsOf X.K hs) (exv X.K c) none σ H
  | [], _, S, q => q F σ H S Stp.refl
  | (x, m) :: r, hx, S, q => by
    refine ⟨subE c x, hx (x, m) List.mem_cons_self, fun e a _ => ?_, fun e => ?_⟩
    · have q : PstS X.K W F H g σ E ((if subE c x = true then noExS m else mHand c r) g) := q
      rw [if_pos e] at q
      exact ⟨F, g, S, noExS_ok q⟩
    · have q : PstS X.K W F H g σ E ((if subE c x = true then noExS m else mHand c r) g) := q
      rw [if_neg (by rw [e]; decide)] at q
      exact hand_ok (fun h hh => hx h (List.mem_cons_of_mem _ hh)) S q
/-- raise C("..."), by the head's one fact of C -/
theorem ss_raiseC {m : Str} {j : Nat} (c : Nat) (hc : X.calm = true) (tk : Takes X W) (e : cname c = x) (f : (He.Fa.exc x).ok X.K = true) (gC : X.mg x = some (.ref (He.ga X.K x))) (hg : Gl X x)
    (hdb : (x == ("__debug__" : Str)) = false := by decide) : SS X W (.Raise (some (.Call (.Name x p) [.Constant (.str m) j p2] [] pos)) none pos') (mRaise c) := by
  subst e
  obtain ⟨h1, h2, h3, h4⟩ := He.exc_ok f
  exact ss_raise c hc tk PySem.F.excBase_ValueError h1 gC h2 (raises_own h3 h4) hg hdb
theorem exm_of {K : Frag} {cs xs : List Nat} (h : tExm cs xs K = true) : ∀ c ∈ cs, ∀ x ∈ xs, PySem.W.exmOne K (exv K c) (exv K x) = some (subE c x) := fun c hc x hx => of_decide_eq_true (List.all_eq_true.mp (List.all_eq_true.mp h c hc) x hx)
theorem exm_hs {K : Frag} {cs xs : List Nat} {hs : List (Nat × M Fl)} (h : tExm cs xs K = true) (e : hs.map (·.1) = xs) : ∀ c ∈ cs, ∀ y ∈ hs, PySem.W.exmOne K (exv K c) (exv K y.1) = some (subE c y.1) := fun c hc y hy => exm_of h c hc y.1 (e ▸ List.mem_map_of_mem hy)
end
end Cq

set_option Elab.async false
set_option linter.all false
set_option maxRecDepth 100000
set_option maxHeartbeats 2000000
set_option Elab.async false
set_option linter.all false
set_option maxRecDepth 100000
set_option maxHeartbeats 2000000
set_option Elab.async false
set_option linter.all false
set_option maxRecDepth 100000
set_option maxHeartbeats 2000000
set_option Elab.async false
set_option linter.all false
set_option maxRecDepth 100000
set_option maxHeartbeats 2000000
namespace Cq
open PySem PySem.Spec PyProof.Rows L2 LamX
def codC (K : Frag) (x : Str) : Addr := match K.lookup (He.ga K x) with
  | some o => (match o.data with
    | .func fd => (match fd.code with
      | .ref c => c
      | _ => 0)
    | _ => 0)
  | none => 0
def tabP (K : Frag) (x : Str) : Addr := match K.lookup (codC K x) with
  | some o => (match o.data with
    | .fields vs => (match vs[11]? with
      | some (Value.ref p) => p
      | _ => 0)
    | _ => 0)
  | none => 0
structure LamD (K : Frag) (x : Str) : Prop where
  code : ∀ {h : Heap}, K.In h → PySem.W.CodeHd h (codC K x) (tabP K x)
  out : K.lookup (tabP K x) = none
  mem : tabP K x ∈ tT K
  name : lamN K (tabP K x) = x ++ ".<locals>." ++ "<lambda>"
theorem noT_ok {K : Frag} (h : tNoT K = true) : ∀ P ∈ tT K, ∀ H : Hp, H P = some (.tbl #[]) := fun P hP => by
  have e : tT K = [] := List.isEmpty_iff.mp h
  rw [e] at hP
  cases hP
end Cq
set_option Elab.async false
set_option linter.all false
set_option maxRecDepth 100000
namespace Cq
open PySem PySem.Spec PyProof.Rows L2
theorem sm_ok {K : Frag} (h : tSm K = true) : SmK K := by
  unfold tSm at h
  cases e : K.lookup sysModules with
  | none => rw [e] at h; cases h
  | some o =>
    rw [e] at h
    simp only at h
    refine ⟨o, e, ?_⟩
    split at h
    · rename_i n hn
      rw [hn, of_decide_eq_true h]
    · cases h
mutual
theorem py_pyd : ∀ {d : D} {p : PyData}, d.py = some p → d.pyd = some p
  | .non, _, e => by simpa only [D.py, D.pyd] using e
  | .bl _, _, e => by simpa only [D.py, D.pyd] using e
  | .int _, _, e => by simpa only [D.py, D.pyd] using e
  | .str _, _, e => by simpa only [D.py, D.pyd] using e
  | .tup xs, _, e => by
    simp only [D.py] at e
    cases q : pyL xs with
    | none => rw [q] at e; cases e
    | some ps => rw [q] at e; cases e; simp only [D.pyd, pyL_pydL q, Option.map_some]
  | .lst xs, _, e => by
    simp only [D.py] at e
    cases q : pyL xs with
    | none => rw [q] at e; cases e
    | some ps => rw [q] at e; cases e; simp only [D.pyd, pyL_pydL q, Option.map_some]
  | .dik _, _, e => by simp [D.py] at e
  | .dit _, _, e => by simp [D.py] at e
  | .ins _ _, _, e => by simp [D.py] at e
  | .scr _, _, e => by simp [D.py] at e
  | .glo _, _, e => by simp [D.py] at e
  | .ktp _, _, e => by simp [D.py] at e
theorem pyL_pydL : ∀ {ds : List D} {ps : List PyData}, pyL ds = some ps → pydL ds = some ps
  | [], _, e => by simpa only [pyL, pydL] using e
  | d :: ds, _, e => by
    simp only [pyL] at e
    cases q : d.py with
    | none => rw [q] at e; cases e
    | some p => cases q2 : pyL ds with
      | none => rw [q, q2] at e; cases e
      | some ps => rw [q, q2] at e; cases e; simp only [pydL, py_pyd q, pyL_pydL q2]
end
def dReprD : List D → Option D
  | [d] => match d.pyd with
    | some p => if p.showable = true ∧ p.shown.length ≤ 1000000 ∧ p.depth ≤ 60 then some (.str p.shown) else none
    | none => none
  | _ => none
theorem reprD_of {d z : D} (h : dRepr [d] = some z) : dReprD [d] = some z := by
  simp only [dRepr] at h
  cases o : d.py with
  | none => rw [o] at h; cases h
  | some p =>
    rw [o] at h
    have h : (if (p.showable && !p.hasDict) = true ∧ p.shown.length ≤ 1000000 ∧ p.depth ≤ 60 then some (D.str p.shown) else none) = some z := h
    by_cases c : (p.showable && !p.hasDict) = true ∧ p.shown.length ≤ 1000000 ∧ p.depth ≤ 60
    · rw [if_pos c] at h
      simp only [dReprD, py_pyd o]
      obtain ⟨c1, c2, c3⟩ := c
      simp only [Bool.and_eq_true] at c1
      rw [if_pos ⟨c1.1, c2, c3⟩]
      exact h
    · rw [if_neg c] at h; cases h
section
variable {X : Cx}
theorem cw_reprD (sm : SmK X.K) (gd : X.A.guards = some []) (hu : X.A.units + 64 < cLine) : CallR X (.builtin "repr") (rDs X.K dReprD) := by
  intro pins s σ H xs us Q I rv h
  obtain ⟨F, ds, z, sb, r, h, q⟩ := h
  obtain ⟨d, rfl⟩ := one_arg (f := dReprD) h rfl fun a b r => by cases a <;> rfl
  obtain ⟨v, rfl, k0⟩ := rovs1 r
  obtain ⟨u, rfl, rv0⟩ := Vals.one rv
  simp only [dReprD] at h
  cases o : d.pyd with
  | none => rw [o] at h; cases h
  | some p =>
    rw [o] at h
    have h : (if p.showable = true ∧ p.shown.length ≤ 1000000 ∧ p.depth ≤ 60 then some (D.str p.shown) else none) = some z := h
    by_cases c : p.showable = true ∧ p.shown.length ≤ 1000000 ∧ p.depth ≤ 60
    · rw [if_pos c] at h; cases h
      obtain ⟨c1, c2, c3⟩ := c
      obtain ⟨as, rd, ns⟩ := k0.reads I sm sb o rv0
      have hsz : p.shown.length ≤ sizeLine := line_le c2
      have nd : p.hasDict = true → sysModules ∉ as := fun _ => ns
      have rd0 := rd
      cases rd with
      | none => exact PySem.P.repr_of_none ⟨.str _, H, I.tok _, ⟨_, rfl⟩, q _ F H (Al.refl sb) (.str _)⟩
      | bool b => exact PySem.P.repr_of_bool ⟨.str _, H, I.tok _, ⟨_, rfl⟩, q _ F H (Al.refl sb) (.str _)⟩
      | int i t => exact PySem.P.repr_of_int (by simpa [PyData.showable] using c1) ⟨.str _, H, I.tok _, ⟨_, rfl⟩, q _ F H (Al.refl sb) (.str _)⟩
      | str x t => exact PySem.P.repr_of_str ⟨.str _, H, I.tok _, ⟨_, rfl⟩, q _ F H (Al.refl sb) (.str _)⟩ hsz
      | _ => exact repr_of_reads' rd0 c1 nd gd (by omega) (fun _ _ e => e) (fun h' u tk hk => ⟨.str _, H, I.kept hk, ⟨_, rfl⟩, q _ F H (Al.refl sb) (.str _)⟩) hsz
    · rw [if_neg c] at h; cases h
end
end Cq

set_option Elab.async false
set_option linter.all false
set_option maxRecDepth 100000
set_option maxHeartbeats 4000000
set_option Elab.async false
set_option linter.all false
set_option maxRecDepth 100000
set_option maxHeartbeats 0
namespace Cq.K61
open PySem PySem.Spec PyProof.Rows L2 Cq
theorem ob_eq (s : PySem.W.SharedT) : ob s = hk.obs s.abs := obsPG_eq (HandSHeadRun.getT_eq s)
end Cq.K61

set_option Elab.async false
set_option linter.all false
set_option maxRecDepth 100000
set_option maxHeartbeats 2000000
namespace Cq
open PySem PySem.Spec PyProof.Rows L2 HotX
section
variable {prog : Program} {w : World} {A : Around} {E : Value → Shared → Prop} {s : Shared}
theorem pyNext_tuple_end_hot {it t x1 : Addr} {i : Nat} {items : Array Value} {Q : Option Value → Shared → Prop} (hot : HotAt A x1 s.heap) (hit : s.heap.IsTupleIter it t i) (ht : s.heap.IsTuple t items) (hx : items[i]? = none) (hne : x1 ≠ it)
    (hQ : ∀ h', (∀ b o, b ≠ it → s.heap.get? b = some o → h'.get? b = some o) → Q none { s with heap := h' }) : wpAny (model prog w) A (pyNext (.ref it)) Q E s := by
  obtain ⟨o, ho, hc, hd⟩ := id hit
  obtain ⟨ol, hol, _, nl, hdl⟩ := ht
  obtain ⟨hh, o1, vs1, h1, d1, c1⟩ := hot
  unfold pyNext
  refine wpAny_bind (wpAny_attempt (wpAny_callSpecial?_slot (name := Str.ofString "__next__") hit.typeIs F.slot_tuple_iterator_next
    (wpAny_call_entry F.slot_tuple_iterator_next hit.typeIs F.entry_tuple_iterator_next ?_ (F.args_tuple_iterator_next_1 _))))
  show wpAny _ _ (field (.ref it) 0 >>= _) _ _ s
  refine wpAny_bind (wpAny_field ho hd (x := .ref t) rfl ?_)
  show wpAny _ _ (if (Value.ref t == Value.none) = true then _ else _) _ _ s
  rw [if_neg (show ¬ ((Value.ref t == Value.none) = true) from Bool.false_ne_true)]
  show wpAny _ _ (field (.ref it) 1 >>= _) _ _ s
  refine wpAny_bind (wpAny_field ho hd (x := .int i 0) rfl ?_)
  show wpAny _ _ (seqItems? (.ref t) >>= _) _ _ s
  refine wpAny_bind (wpAny_seqItems hol hdl ?_)
  simp only [Int.toNat_natCast, hx]
  refine wpAny_bind (wpAny_rule (wpAny_bind (wpAny_setField ho hd (by simp) ?_)))
  show wpAny _ _ (newExc (.type "StopIteration") [] >>= _) _ _ _
  refine wpAny_bind ?_
  simp only [newExc, newTuple]
  refine wpAny_bind (wpAny_newObj_type ?_ (by size_fits))
  refine wpAny_bind (m := firstArgMember _ _) (wpAny_of_eq (a := Value.none) (by first | rfl | (simp only [firstArgMember]; rfl)) ?_)
  refine wpAny_newObj_type ?_ (by size_fits)
  refine raiseNew_hot ⟨hh, o1, vs1, Heap.get?_push_of_some _ (Heap.get?_push_of_some _ ((Heap.get?_update_other _ _ (Ne.symm hne)).trans h1)), d1, c1⟩ (Nat.ne_of_lt (Heap.lt_size (Heap.get?_push_of_some _ ((Heap.get?_update_other _ _ (Ne.symm hne)).trans h1)))) (Heap.get?_push_size _ rfl) rfl (by first | (simp; done) | (simp; omega) | (simp only [Array.size_append]; simp; omega)) ?_
  refine wpAny_bind (wpAny_isInstance (T := "StopIteration") (b := true) ⟨_, Heap.get?_update_self _ (Heap.get?_push_size _ rfl) rfl, rfl⟩ isSubtype_stop ?_)
  refine wpAny_pure (hQ _ fun b o hb e => ?_)
  have e2 := (Heap.get?_update_other s.heap (Obj.mapFields (·.setIfInBounds 0 Value.none)) (Ne.symm hb)).trans e
  rw [Heap.get?_update_other _ _ (Nat.ne_of_gt (Heap.lt_size (Heap.get?_push_of_some _ e2)))]
  exact Heap.get?_push_of_some _ (Heap.get?_push_of_some _ e2)
end
end Cq

set_option Elab.async false
set_option linter.all false
set_option maxRecDepth 100000
set_option maxHeartbeats 2000000
namespace Cq
open PySem PySem.Spec PyProof.Rows L2 HotX
structure TurnZ (P : Program) (w : World) (K : PySem.W.Frag) (tg : Expr) (J : It) (fp : List Addr) (it : Addr) (tn : Nat → Heap → Prop) : Prop where
  obj : ∀ i h, tn i h → ∀ b ∈ fp, ∃ o, h.get? b = some o ∧ ∀ v, o.data ≠ .cell v
  keep : ∀ i h h', tn i h → (∀ b ∈ fp, ∀ o, h.get? b = some o → h'.get? b = some o) → tn i h'
  item : ∀ (X : Cx), X.prog = P → X.w = w → X.K = K → ∀ (i : Nat) (pins : List (Addr × Obj)) (s : Shared) (σ : L2.St) (H : Hp) (E : Value → Shared → Prop), Inv X pins σ H s → (∀ b ∈ fp, FpOk X pins H b) → tn i s.heap → J.go i H →
    wpAny (model P w) X.A (pyNext (.ref it)) (fun r s1 => ∃ u, r = some u ∧
      wpAny (model P w) X.A (letOwnedTupleGo tg (.ref it) u) (fun _ s2 => ∃ x H', Inv X pins σ H' s2 ∧ RelV x u ∧ J.yld i H x H' ∧ tn (i + 1) s2.heap ∧ ∀ b ∈ fp, H' b = none) E s1) E s
  done : ∀ (X : Cx), X.prog = P → X.w = w → X.K = K → ∀ (x1 : Addr), x1 ∉ fp → ∀ (i : Nat) (pins : List (Addr × Obj)) (s : Shared) (σ : L2.St) (H : Hp) (E : Value → Shared → Prop), HotAt X.A x1 s.heap → Inv X pins σ H s → (∀ b ∈ fp, FpOk X pins H b) → tn i s.heap → J.stop i H →
    wpAny (model P w) X.A (pyNext (.ref it)) (fun r s1 => r = none ∧ Inv X pins σ H s1) E s
  self : ∀ (A : Around) (i : Nat) (s : Shared) (Q : Value → Shared → Prop) (E : Value → Shared → Prop), tn i s.heap → Q (.ref it) s → wpAny (model P w) A (pyIter (.ref it)) Q E s
def PIEZ (X : Cx) (pins : List (Addr × Obj)) (σ : L2.St) (tg : Expr) (R : It → Hp → Prop) (itv : Value) (s2 : Shared) : Prop :=
  ∃ (it : Addr) (fp : List Addr) (tn : Nat → Heap → Prop) (J : It) (H' : Hp), itv = .ref it ∧ Inv X pins σ H' s2 ∧ TurnZ X.prog X.w X.K tg J fp it tn ∧ tn 0 s2.heap ∧ (∀ b ∈ fp, FpOk X pins H' b) ∧ R J H'
structure PIZ (X : Cx) (tg iter : Expr) (wi : TI) : Prop where
  run : ∀ (pins : List (Addr × Obj)) (s : Shared) (σ : L2.St) (H : Hp) (R : It → Hp → Prop), Inv X pins σ H s → wi σ H R →
    wpAny (model X.prog X.w) X.A (eval iter X.env) (fun v s1 => wpAny (model X.prog X.w) X.A (pyIter v) (PIEZ X pins σ tg R) X.xe s1) X.xe s
theorem turn_tupleZ {P : Program} {w : World} {K : PySem.W.Frag} {tg : Expr} (a it : Addr) : TurnZ P w K tg (Itt K a) [it] it (fun i h => h.IsTupleIter it a i) where
  obj := (turn_tuple (P := P) (w := w) (K := K) (tg := tg) a it).obj
  keep := (turn_tuple (P := P) (w := w) (K := K) (tg := tg) a it).keep
  item := by
    intro X hP hw hK i pins s σ H E I hf st hg
    subst hP hw hK
    obtain ⟨xs, x, hq, hx⟩ := hg
    obtain ⟨its, rv, p, hz⟩ := I.tuple hq
    obtain ⟨u, hu, ru⟩ := rv.get hx
    obtain ⟨f0, f1, f2, f3, f4, f5⟩ := hf it (by simp)
    refine wpAny_pyNext_tuple_item st (show s.heap.IsTuple a its.toArray from p) (x := u) (by simpa using hu) fun h' st' sb => ?_
    have I1 : Inv X pins σ H { s with heap := h' } := I.turned (t' := s.toks) (fun b o hb e => (sb.2 b hb).trans e) f0 f1 f3 f4 f5
    obtain ⟨o, e, c, d⟩ := id st'
    exact ⟨u, rfl, go_of (s := { s with heap := h' }) e c d (by decide) ⟨x, H, I1, ru, ⟨rfl, fun ys hy => by rw [I.tuple_inj hy hq]; exact hx⟩, st', fun b hb => (hf b hb).1⟩⟩
  done := by
    intro X hP hw hK x1 nx i pins s σ H E hot I hf st hg
    subst hP hw hK
    obtain ⟨xs, hq, hx⟩ := hg
    obtain ⟨its, rv, p, hz⟩ := I.tuple hq
    obtain ⟨f0, f1, f2, f3, f4, f5⟩ := hf it (by simp)
    have hl := rv.length
    exact pyNext_tuple_end_hot hot st (show s.heap.IsTuple a its.toArray from p) (by simp; omega) (by simpa using nx) fun h' eb => ⟨rfl, I.turned (t' := s.toks) (fun b o hb e => eb b o hb e) f0 f1 f3 f4 f5⟩
  self := (turn_tuple (P := P) (w := w) (K := K) (tg := tg) a it).self
section
variable {X : Cx} {tg : Expr}
theorem pi_tupZ {l : Expr} {tl : TE} (hl : PE X l tl) : PIZ X tg l (iTup X.K tl) := by
  refine ⟨fun pins s σ H R I h => ?_⟩
  refine thn (hl.run pins s σ H _ I h) fun v s1 ⟨x, H1, I1, r1, q1⟩ => ?_
  obtain ⟨a, e, ⟨xs, hq⟩, q⟩ := q1
  subst e
  cases r1
  obtain ⟨its, rv, p, hz⟩ := I1.tuple hq
  refine wpAny_pyIter_tuple (show s1.heap.IsTuple a its.toArray from p) ?_
  refine ⟨s1.heap.objs.size, [s1.heap.objs.size], _, _, H1, rfl, I1.kept (t' := s1.toks) fun b o e => Heap.get?_push_of_some _ e, turn_tupleZ a _, ⟨_, Heap.get?_push_size _ rfl, rfl, rfl⟩, fun b hb => ?_, q⟩
  have e : b = s1.heap.objs.size := by simpa using hb
  subst e
  exact I1.fpOk (Nat.le_refl _) (I1.hok.fresh (Nat.le_refl _))
end
section
variable {X : Cx}
theorem lc_coreZ {pins : List (Addr × Obj)} {s : Shared} {σ : L2.St} {H : Hp} {Q : VK} {elt tg iter : Expr} {ifs : List Expr} {scope : Scope} {own : List (Str × Nat)} {pos pos' : Pos} {wi : TI} {g : TG} {tt : TT} {te : TE} {use : Option (Value → Sem Unit)} {Qf : Value → Shared → Prop}
    (hc : L2H.HotC X) (hN : X.N.Nodup) (I : Inv X pins σ H s) (hi : PIZ X tg iter wi) (ok : BlkOk X.N X.env.scope scope own)
    (hg : ∀ (s : Shared) (H : Hp) (C : Addr) (cl : List (Str × Addr)) (fp : List Addr), PG (X.blk s H scope (compEnvC scope cl C X.env) fp) tg g) (ht : ∀ (s : Shared) (H : Hp) (C : Addr) (cl : List (Str × Addr)) (fp : List Addr), PTs (X.blk s H scope (compEnvC scope cl C X.env) fp) ifs tt)
    (he : ∀ (s : Shared) (H : Hp) (C : Addr) (cl : List (Str × Addr)) (fp : List Addr), PE (X.blk s H scope (compEnvC scope cl C X.env) fp) elt te) (hs : ∀ x, foldedSetIterable iter X.env x = pure x)
    (h : tLc wi g tt te (own.map (·.2)) σ H Q)
    (hRR : ∀ D C s' m H', Inv X pins σ H' s' → Q (.ref D) H' → s'.heap.Ns C m → FpOk X pins H' C → compPost (model X.prog X.w) X.A X.xe use Qf (.ref D) C (.ok .next) s') :
    wpAny (model X.prog X.w) X.A (comprehension (.ListComp elt [⟨tg, iter, ifs, 0⟩] scope pos) scope X.env pos' (newList []) false (eval iter X.env) use) Qf X.xe s := by
  have hfree : ∀ y ∈ scope.names, y.2 = .free → ∃ c, X.env.cells.lookup y.1 = some c := fun y hy e => by
    rcases ok.free y hy e with k | k
    · exact I.ok.has _ (.inl k)
    · exact I.ok.has _ (.inr k)
  refine wpAny_comprehension_free (use := use) rfl hs (closure_ok hfree) ok.kind (fun y hy e => by rw [ok.uniq y hy, e])
    (thn (hi.run pins s σ H _ I h) fun xv s1 hx => thn hx fun itv s2 h2 => ?_)
  obtain ⟨it, fp, tn, J, H2, e, I2, T, st2, f2, q⟩ := h2
  subst e
  refine wpAny_newObj_type (newEnv_comp ?_) (by show 0 ≤ sizeLine; decide)
  generalize hD : s2.heap.objs.size = D
  have hDn : H2 D = none := I2.hok.fresh (Nat.le_of_eq hD)
  obtain ⟨W, ⟨m0, w0⟩, turn⟩ := q D hDn
  -- the new list
  generalize hs3 : ({ s2 with heap := s2.heap.push { cls := .type "list", data := .seq ([] : List Value).toArray } } : Shared) = s3
  have I3 : Inv X pins σ (upd H2 D (.lst [])) s3 := by
    rw [← hs3]
    refine I2.laid (t' := s2.toks) (fun b o e => Heap.get?_push_of_some _ e) (Nat.le_of_eq hD) ⟨Nat.zero_le _, [], 0, .nil, ?_⟩
    rw [← hD]
    exact Heap.get?_push_size _ rfl
  have h3 : s3.heap = s2.heap.push { cls := .type "list", data := .seq ([] : List Value).toArray } := by rw [← hs3]
  have sz : ∀ b ∈ fp, b < s2.heap.objs.size := fun b hb => by
    obtain ⟨o, e, _⟩ := T.obj _ _ st2 b hb
    exact Heap.lt_size e
  have f3 : ∀ b ∈ fp, FpOk X pins (upd H2 D (.lst [])) b ∧ b < s3.heap.objs.size := fun b hb => by
    have hlt := sz b hb
    refine ⟨⟨?_, (f2 b hb).2⟩, by rw [h3, Heap.size_push]; exact Nat.lt_succ_of_lt hlt⟩
    rw [upd_ne (by rw [← hD]; exact Nat.ne_of_lt hlt)]
    exact (f2 b hb).1
  have st3 : tn 0 s3.heap := T.keep _ _ _ st2 fun b _ o e => by rw [h3]; exact Heap.get?_push_of_some _ e
  have I4 := block_start I3 ok hN f3
  have pg := hg s3 (upd H2 D (.lst [])) s3.heap.objs.size (cellsFrom (s3.heap.objs.size + 1) scope.names (cloFrom X.env.cells scope.names [])) fp
  have pt := ht s3 (upd H2 D (.lst [])) s3.heap.objs.size (cellsFrom (s3.heap.objs.size + 1) scope.names (cloFrom X.env.cells scope.names [])) fp
  have pe := he s3 (upd H2 D (.lst [])) s3.heap.objs.size (cellsFrom (s3.heap.objs.size + 1) scope.names (cloFrom X.env.cells scope.names [])) fp
  show codeAny _ _ (.compStart (.ListComp elt [⟨tg, iter, ifs, 0⟩] scope pos) 0 (.ref it) (.ref D) (compEnvC scope (cellsFrom (s3.heap.objs.size + 1) scope.names (cloFrom X.env.cells scope.names [])) s3.heap.objs.size X.env)) (compPost (model X.prog X.w) X.A X.xe use Qf (.ref D) s3.heap.objs.size) { s3 with heap := pushCells (s3.heap.push { cls := .type "dict", data := .dict #[] }) scope.names }
  have nfp : ∀ b ∈ fp, (upd H2 D (.lst [])) b = none := fun b hb => (f3 b hb).1.1
  generalize hce : compEnvC scope (cellsFrom (s3.heap.objs.size + 1) scope.names (cloFrom X.env.cells scope.names [])) s3.heap.objs.size X.env = ce at I4 pg pt pe ⊢
  have cL : ce.locals = s3.heap.objs.size := by subst hce; rfl
  generalize hH3 : upd H2 D (.lst []) = H3 at I3 I4 pg pt pe w0 nfp f3
  generalize hs4 : ({ s3 with heap := pushCells (s3.heap.push { cls := .type "dict", data := .dict #[] }) scope.names } : Shared) = s4 at I4 ⊢
  have st4 : tn 0 s4.heap := T.keep _ _ _ st3 fun b _ o e => by rw [← hs4]; exact pushCells_keeps _ _ _ _ (Heap.get?_push_of_some _ e)
  have stat : ∀ {σ' : L2.St} {H' : Hp} {s' : Shared}, Inv (X.blk s3 H3 scope ce fp) [] σ' H' s' → (∀ b ∈ fp, H' b = none) → ∀ b ∈ fp, FpOk (X.blk s3 H3 scope ce fp) [] H' b := fun {σ' H' s'} I' hn b hb =>
    ⟨hn b hb, (I'.ok.exf b hb).1, I'.ok.exfs b hb, .inl hb, fun x c e => (I'.ok.exf b hb).2 x c e, fun p hp => absurd (show p ∈ ([] : List (Addr × Obj)) ++ [] from hp) (by simp)⟩
  have loop : codeAny (model X.prog X.w) X.A (.compLoop (.ListComp elt [⟨tg, iter, ifs, 0⟩] scope pos) 0 (.ref it) (.ref D) ce) (compPost (model X.prog X.w) X.A X.xe use Qf (.ref D) s3.heap.objs.size) s4 := by
    refine compLoop_any (fun n s' => ∃ i H', Inv (X.blk s3 H3 scope ce fp) [] (wipe σ (own.map (·.2))) H' s' ∧ tn i s'.heap ∧ (∀ b ∈ fp, H' b = none) ∧ W i n H') ?_ m0 ⟨0, H3, I4, st4, nfp, w0⟩
    rintro n s5 ⟨i, H5, I5, st5, n5, w5⟩
    rcases turn i n H5 w5 with ⟨stop, qq⟩ | ⟨go, Nx, hNx, step⟩
    · obtain ⟨p, ⟨hA, vs, hd, h2⟩, hp⟩ := hc
      have pin := I3.pin p (List.mem_append_left _ hp)
      have nfs : p.1 ∉ frs X.stack := fun z => by
        rcases List.mem_cons.mp (I3.stkSub p.1 z) with z | z
        · exact pin.2.2.1 z
        · exact pin.2.2.2.1 z
      have npf : p.1 ∉ fp := fun z => (f3 p.1 z).1.2.2.2.2.2 p (List.mem_append_left _ hp) rfl
      have e5 : s5.heap.get? p.1 = some p.2 := I5.base.keep p.1 p.2 pin.1 pin.2.1 nfs npf
      have td := T.done (X.blk s3 H3 scope ce fp) rfl rfl rfl p.1 npf i [] s5 _ H5 (fun _ _ => False) ⟨hA, p.2, vs, e5, hd, h2⟩ I5 (stat I5 n5) st5 stop
      refine thnF td fun r s6 ⟨hr, I6⟩ => ?_
      subst hr
      -- back in the def's context
      have I7 : Inv X pins σ H5 s6 := I3.call' (ch := fp) I6.os I6.base I6.hok I6.bare fun b hb => ⟨(f3 b hb).1.2.2.2.1, (f3 b hb).1.2.1, (f3 b hb).1.2.2.2.2.1, (f3 b hb).1.2.2.2.2.2⟩
      have nC : H5 s3.heap.objs.size = none := by
        have z : H5 ce.locals = none := I6.free
        rw [cL] at z
        exact z
      obtain ⟨m, hn, _⟩ := I6.loc
      have hn : s6.heap.Ns ce.locals m := hn
      rw [cL] at hn
      exact hRR D s3.heap.objs.size s6 m H5 I7 qq hn (I3.fpOk (Nat.le_refl _) nC)
    · have ti := T.item (X.blk s3 H3 scope ce fp) rfl rfl rfl i [] s5 _ H5 (fun _ _ => False) I5 (stat I5 n5) st5 go
      refine thnF ti fun r s6 ⟨u, hr, h6⟩ => ?_
      subst hr
      refine thnF h6 fun _ s7 ⟨x, H7, I7, r7, y7, st7, n7⟩ => ?_
      have I7' := I7.pinned (stat I7 n7) (T.obj _ _ st7)
      refine thnF (pg.run _ s7 _ H7 x u _ I7' r7 (step x H7 y7)) fun _ s8 ⟨σ8, H8, I8, hw8, q8⟩ => ?_
      refine thnF (pt.run _ s8 σ8 H8 _ I8 q8) fun b s9 ⟨H9, I9, q9⟩ => ?_
      -- the turn's end
      have fin : ∀ {s' : Shared} {H' : Hp}, Inv (X.blk s3 H3 scope ce fp) ([] ++ pinsAt fp s7.heap) σ8 H' s' → Nx H' → ∃ m, m < n ∧ ∃ i H', Inv (X.blk s3 H3 scope ce fp) [] (wipe σ (own.map (·.2))) H' s' ∧ tn i s'.heap ∧ (∀ b ∈ fp, H' b = none) ∧ W i m H' := fun {s' H'} I' nx => by
        obtain ⟨m', hm, w'⟩ := hNx H' nx
        have pin' : ∀ b ∈ fp, ∀ o, s7.heap.get? b = some o → s'.heap.get? b = some o ∧ H' b = none := fun b hb o e =>
          let z := I'.pin (b, o) (List.mem_append_right _ (List.mem_append_right _ (mem_pinsAt hb e)))
          ⟨z.1, z.2.1⟩
        have hl : (wipe σ (own.map (·.2))).length = σ8.length := by rw [← hw8, wipe_length]
        refine ⟨m', hm, i + 1, H', (I'.unpinned (pins := [])).weak hl (fun j v e => ?_), T.keep _ _ _ st7 fun b hb o e => (pin' b hb o e).1, fun b hb => ?_, w'⟩
        · rw [← hw8] at e
          exact (wipe_some e).1
        · obtain ⟨o, e, _⟩ := T.obj _ _ st7 b hb
          exact (pin' b hb o e).2
      cases b with
      | false =>
        simp only [Bool.false_eq_true, if_false] at q9 ⊢
        exact fin I9 q9
      | true =>
        simp only [if_true] at q9 ⊢
        refine thnF (pe.run _ s9 σ8 H9 _ I9 q9) fun z s10 ⟨yv, H10, I10, r10, acc, hD10, hz10, nx⟩ => ?_
        exact app_ok (X := X.blk s3 H3 scope ce fp) I10 hD10 hz10 r10 fun s11 I11 => fin I11 nx
  exact codeAny_compStart_list loop (T.self X.A 0 _ _ _ st4 loop)
/-- as a value -/
theorem pe_lcZ {elt tg iter : Expr} {ifs : List Expr} {scope : Scope} {own : List (Str × Nat)} {pos : Pos} {wi : TI} {g : TG} {tt : TT} {te : TE} (hc : L2H.HotC X) (hN : X.N.Nodup) (hi : PIZ X tg iter wi) (ok : BlkOk X.N X.env.scope scope own)
    (hg : ∀ (s : Shared) (H : Hp) (C : Addr) (cl : List (Str × Addr)) (fp : List Addr), PG (X.blk s H scope (compEnvC scope cl C X.env) fp) tg g) (ht : ∀ (s : Shared) (H : Hp) (C : Addr) (cl : List (Str × Addr)) (fp : List Addr), PTs (X.blk s H scope (compEnvC scope cl C X.env) fp) ifs tt)
    (he : ∀ (s : Shared) (H : Hp) (C : Addr) (cl : List (Str × Addr)) (fp : List Addr), PE (X.blk s H scope (compEnvC scope cl C X.env) fp) elt te) (hs : ∀ x, foldedSetIterable iter X.env x = pure x := by intro _; rfl) :
    PE X (.ListComp elt [⟨tg, iter, ifs, 0⟩] scope pos) (tLc wi g tt te (own.map (·.2))) := by
  refine ⟨fun pins s σ H Q I h => ?_⟩
  rw [eval_ListComp]
  refine lc_coreZ hc hN I hi ok hg ht he hs h fun D C s' m H' I' q hn f => ⟨m, hn, fun h'' sb => ?_⟩
  obtain ⟨f0, f1, f2, f3, f4, f5⟩ := f
  exact ⟨.ref D, H', I'.turned (t' := s'.toks) (fun b o hb e => (sb.2 b hb).trans e) f0 f1 f3 f4 f5, rfl, q⟩
end
end Cq

set_option Elab.async false
set_option linter.all false
set_option maxRecDepth 100000
set_option maxHeartbeats 3200000
namespace Cq
open PySem PySem.Spec PyProof.Rows L2 HotX
theorem hotK {A : Around} {x1 : Addr} {h h' : Heap} (hot : HotAt A x1 h) (k : ∀ o, h.get? x1 = some o → h'.get? x1 = some o) : HotAt A x1 h' := by
  obtain ⟨hh, o1, vs1, h1, d1, c1⟩ := hot
  exact ⟨hh, o1, vs1, k o1 h1, d1, c1⟩
section
variable {P : Program} {w : World} {A : Around} {E : Value → Shared → Prop} {s : Shared} {a it : Addr} {es : Array (Int × Value)} {ep : Nat} {t : SetTable} {i sl : Nat}
theorem stop_atH {x1 : Addr} {h0 : Heap} {Q : Option Value → Shared → Prop} (hot : HotAt A x1 s.heap) (hx1 : x1 ≠ it) (hk : ∀ b o, b ≠ it → s.heap.get? b = some o → h0.get? b = some o)
    (hQ : ∀ h', Heap.ExtBut it s.heap h' → Q none { s with heap := h' }) :
    wpAny (model P w) A.in1 (newExc (.type "StopIteration") [] >>= fun e => (raiseNew e : Sem Fin)) (fun _ _ => False)
      (fun e s' => wpAny (model P w) A (do if ← isInstance e (.type "StopIteration") then pure none else throw e) Q E s') { s with heap := h0 } := by
  obtain ⟨hh, o1, vs1, h1, d1, c1⟩ := hotK hot (h' := h0) fun o e => hk x1 o hx1 e
  refine wpAny_bind ?_
  simp only [newExc, newTuple]
  refine wpAny_bind (wpAny_newObj_type ?_ (by size_fits))
  refine wpAny_bind (m := firstArgMember _ _) (wpAny_of_eq (a := Value.none) (by first | rfl | (simp only [firstArgMember]; rfl)) ?_)
  refine wpAny_newObj_type ?_ (by size_fits)
  refine raiseNew_hot ⟨hh, o1, vs1, Heap.get?_push_of_some _ (Heap.get?_push_of_some _ h1), d1, c1⟩ (Nat.ne_of_lt (Heap.lt_size (Heap.get?_push_of_some _ h1))) (Heap.get?_push_size _ rfl) rfl (by first | (simp; done) | (simp; omega) | (simp only [Array.size_append]; simp; omega)) ?_
  refine wpAny_bind (wpAny_isInstance (T := "StopIteration") (b := true) ⟨_, Heap.get?_update_self _ (Heap.get?_push_size _ rfl) rfl, rfl⟩ isSubtype_stop ?_)
  refine wpAny_pure (hQ _ fun b o hb e => ?_)
  have e2 := hk b o hb e
  rw [Heap.get?_update_other _ _ (Nat.ne_of_gt (Heap.lt_size (Heap.get?_push_of_some _ e2)))]
  exact Heap.get?_push_of_some _ (Heap.get?_push_of_some _ e2)
theorem next_endH {x1 : Addr} {Q : Option Value → Shared → Prop} (hh : HotAt A x1 s.heap) (hx1 : x1 ≠ it) (hit : IsSI s.heap it (.int (sl : Int) 0) i a es.size ep) (ha : SetAt s.heap a es ep t) (hf : t.fits es.size = true)
    (hN : ∀ (A' : Around) (E' : Value → Shared → Prop) (Q' : Option (Value × Nat) → Shared → Prop), Q' none s → wpAny (model P w) A' (setNext a sl i ep) Q' E' s)
    (hQ : ∀ h', Heap.ExtBut it s.heap h' → Q none { s with heap := h' }) :
    wpAny (model P w) A (pyNext (.ref it)) Q E s := by
  obtain ⟨o, ho, hc, hd⟩ := id hit
  obtain ⟨oa, hoa, _, hda⟩ := id ha
  unfold pyNext
  refine wpAny_bind (wpAny_attempt (wpAny_callSpecial?_slot (name := Str.ofString "__next__") hit.typeIs slot_si_next
    (wpAny_call_entry slot_si_next hit.typeIs entry_si_next ?_ (args_si_next _))))
  unfold Builtin.«set_iterator.__next__»
  refine wpAny_bind (m := slotArgs "__next__" 0 _) (wpAny_pure ?_)
  refine wpAny_bind (wpAny_fieldsOf ho hd ?_)
  show wpAny _ _ (setEntries a >>= _) _ _ s
  refine wpAny_bind (wpAny_setEntries_of hoa hda hf ?_)
  refine wp_if_neg (by simp) ?_
  try refine wpAny_bind (wpAny_pure ?_)
  show wpAny _ _ (setNext a sl i ep >>= _) _ _ s
  refine wpAny_bind (hN _ _ _ ?_)
  show wpAny _ _ (setField (.ref it) 2 .none >>= _) _ _ s
  refine wpAny_bind (wpAny_setField ho hd (by simp) ?_)
  refine wpAny_mono (stop_atH (s := s) (it := it) (Q := Q) (E := E) hh hx1 (fun b ob hb e => ?_) hQ) (fun _ _ z => z.elim) fun e s' z => z
  exact (Heap.get?_update_other _ _ (Ne.symm hb)).trans e


theorem next_drawn_endH {x1 : Addr} {p : Addr} {ys : List Nat} {Q : Option Value → Shared → Prop} (hh : HotAt A x1 s.heap) (hx1 : x1 ≠ it) (hit : IsSI s.heap it (.ref p) i a es.size ep) (ha : SetAt s.heap a es ep t) (hf : t.fits es.size = true)
    (hp : s.heap.get? p = some { cls := .type "tuple", data := .seq (ys.map fun (k : Nat) => rawInt (k : Int)).toArray }) (hj : ys[i]? = none)
    (hQ : ∀ h', Heap.ExtBut it s.heap h' → Q none { s with heap := h' }) :
    wpAny (model P w) A (pyNext (.ref it)) Q E s := by
  obtain ⟨o, ho, hc, hd⟩ := id hit
  obtain ⟨oa, hoa, _, hda⟩ := id ha
  unfold pyNext
  refine wpAny_bind (wpAny_attempt (wpAny_callSpecial?_slot (name := Str.ofString "__next__") hit.typeIs slot_si_next
    (wpAny_call_entry slot_si_next hit.typeIs entry_si_next ?_ (args_si_next _))))
  unfold Builtin.«set_iterator.__next__»
  refine wpAny_bind (m := slotArgs "__next__" 0 _) (wpAny_pure ?_)
  refine wpAny_bind (wpAny_fieldsOf ho hd ?_)
  show wpAny _ _ (setEntries a >>= _) _ _ s
  refine wpAny_bind (wpAny_setEntries_of hoa hda hf ?_)
  refine wp_if_neg (by simp) ?_
  try refine wpAny_bind (wpAny_pure ?_)
  show wpAny _ _ (seqItems? (.ref p) >>= _) _ _ s
  refine wpAny_bind (wpAny_seqItems hp rfl ?_)
  have hij : (ys.map fun (k : Nat) => rawInt (k : Int)).toArray[(Int.toNat (i : Int))]? = none := by simp [hj]
  dsimp only
  rw [hij]
  show wpAny _ _ (setField (.ref it) 0 (rawInt 0) >>= _) _ _ s
  refine wpAny_bind (wpAny_setField ho hd (by simp) ?_)
  have ho1 := Heap.get?_update_self (Obj.mapFields (·.setIfInBounds 0 (rawInt 0))) ho (Obj.isFreed_of_fields (Obj.data_mapFields hd _))
  have hd1 := Obj.data_mapFields hd (·.setIfInBounds 0 (rawInt 0))
  show wpAny _ _ (setField (.ref it) 2 .none >>= _) _ _ _
  refine wpAny_bind (wpAny_setField ho1 hd1 (by simp) ?_)
  refine wpAny_mono (stop_atH (s := s) (it := it) (Q := Q) (E := E) hh hx1 (fun b ob hb e => ?_) hQ) (fun _ _ z => z.elim) fun e s' z => z
  exact (Heap.get?_update_other _ _ (Ne.symm hb)).trans ((Heap.get?_update_other _ _ (Ne.symm hb)).trans e)

end
section
variable {P : Program} {w : World} {A : Around} {a I : Addr} {es : Array (Int × Value)} {ep : Nat} {t : SetTable}
theorem walks_textH {x1 : Addr} (hx1 : x1 ≠ I) (hne : a ≠ I) (hf : t.fits es.size = true) (hbt : w.params.followText "set-order" = true) :
    Walks P w A I [I, a, x1] [I] (pickOrder (w.params.setOrder a ep) es).size (fun j v => ((pickOrder (w.params.setOrder a ep) es)[j]?).map (·.2) = some v)
      (fun i h => (IsSI h I (.int ((0 : Nat) : Int) 0) i a es.size ep ∧ SetAt h a es ep t) ∧ HotAt A x1 h) where
  sub := fun b hb => by simp at hb; simp [hb]
  frame := fun _ _ _ st0 hk => have st := st0.1; ⟨⟨st.1.at fun o e => hk I (by simp) o e, st.2.at fun o e => hk a (by simp) o e⟩, hotK st0.2 (hk x1 (by simp))⟩
  item := fun i s Q E hi st0 hQ => by
    obtain ⟨st, hot⟩ := st0
    have e := Array.getElem?_eq_getElem hi
    refine next_item (x := ((pickOrder (w.params.setOrder a ep) es)[i]).2) (nx := 0) st.1 st.2 hf (fun A' E' Q' h => setNext_text st.2 hf hbt (by rw [e]; exact h)) fun h' hit' hs' => ?_
    exact hQ _ h' s.toks (congrArg (Option.map fun q : Int × Value => q.2) e) ⟨⟨hit', st.2.at fun o q => hs'.extBut a o hne q⟩, hotK hot (fun o q => hs'.extBut x1 o hx1 q)⟩ fun b o hb q => hs'.extBut b o (fun z => hb (by simp [z])) q
  done := fun s Q E st0 hQ => by
    obtain ⟨st, hot⟩ := st0
    have e : (pickOrder (w.params.setOrder a ep) es)[(pickOrder (w.params.setOrder a ep) es).size]? = none := Array.getElem?_eq_none (Nat.le_refl _)
    refine next_endH hot hx1 st.1 st.2 hf (fun A' E' Q' h => setNext_text st.2 hf hbt (by rw [e]; exact h)) fun h' he' => ?_
    exact hQ h' s.toks fun b o hb q => he' b o (fun z => hb (by simp [z])) q
  self := fun _ _ _ _ st hQ => iter_self st.1.1 hQ


theorem walks_ledH {x1 : Addr} (hx1 : x1 ≠ I) (hne : a ≠ I) (hf : t.fits es.size = true) (r : Ris t.place.toList) (hbt : w.params.followText "set-order" = false)
    (hdr : (!t.plain && decide (es.size > 1)) = false) (hl : t.led = true) :
    Walks P w A I [I, a, x1] [I] es.size (fun j v => (es[j]?).map (·.2) = some v)
      (fun i h => (IsSI h I (.int ((slotAt t i : Nat) : Int) 0) i a es.size ep ∧ SetAt h a es ep t) ∧ HotAt A x1 h) where
  sub := fun b hb => by simp at hb; simp [hb]
  frame := fun _ _ _ st0 hk => have st := st0.1; ⟨⟨st.1.at fun o e => hk I (by simp) o e, st.2.at fun o e => hk a (by simp) o e⟩, hotK st0.2 (hk x1 (by simp))⟩
  item := fun i s Q E hi st0 hQ => by
    obtain ⟨st, hot⟩ := st0
    have hps : t.place.size = es.size := by
      simp only [SetTable.fits, Bool.and_eq_true, beq_iff_eq] at hf
      exact hf.1
    have hip : i < t.place.size := by rw [hps]; exact hi
    have e := Array.getElem?_eq_getElem hi
    have e2 := Array.getElem?_eq_getElem hip
    have hb := below_slotAt r (Nat.le_of_lt hip)
    have hnx : slotAt t (i + 1) = t.place[i] + 1 := by
      show (t.place.toList[i]?.getD 0) + 1 = _
      rw [Array.getElem?_toList, e2] <;> rfl
    refine next_item (x := (es[i]).2) (nx := t.place[i] + 1) st.1 st.2 hf (fun A' E' Q' h => setNext_led st.2 hf hbt hdr hl (by rw [hb, e, e2]; exact h)) fun h' hit' hs' => ?_
    exact hQ _ h' s.toks (congrArg (Option.map fun q : Int × Value => q.2) e) ⟨⟨by rw [hnx]; exact hit', st.2.at fun o q => hs'.extBut a o hne q⟩, hotK hot (fun o q => hs'.extBut x1 o hx1 q)⟩ fun b o hb q => hs'.extBut b o (fun z => hb (by simp [z])) q
  done := fun s Q E st0 hQ => by
    obtain ⟨st, hot⟩ := st0
    have hps : t.place.size = es.size := by
      simp only [SetTable.fits, Bool.and_eq_true, beq_iff_eq] at hf
      exact hf.1
    have e : es[es.size]? = none := Array.getElem?_eq_none (Nat.le_refl _)
    have e2 : t.place[es.size]? = none := Array.getElem?_eq_none (Nat.le_of_eq hps)
    have hb : SetTable.below t.place (slotAt t es.size) = es.size := below_slotAt r (Nat.le_of_eq hps.symm)
    refine next_endH hot hx1 st.1 st.2 hf (fun A' E' Q' h => setNext_led st.2 hf hbt hdr hl (by rw [hb, e, e2]; exact h)) fun h' he' => ?_
    exact hQ h' s.toks fun b o hb q => he' b o (fun z => hb (by simp [z])) q
  self := fun _ _ _ _ st hQ => iter_self st.1.1 hQ


theorem walks_drawnH {x1 : Addr} {p : Addr} {ys : List Nat} (hx1 : x1 ≠ I) (hne : a ≠ I) (hpe : p ≠ I) (hf : t.fits es.size = true) (hy : ∀ j ∈ ys, j < es.size) :
    Walks P w A I [I, a, p, x1] [I] ys.length (fun j v => (ys[j]?).bind (fun q => (es[q]?).map (·.2)) = some v)
      (fun i h => (IsSI h I (.ref p) i a es.size ep ∧ SetAt h a es ep t ∧ h.get? p = some { cls := .type "tuple", data := .seq (ys.map fun (k : Nat) => rawInt (k : Int)).toArray }) ∧ HotAt A x1 h) where
  sub := fun b hb => by simp at hb; simp [hb]
  frame := fun _ _ _ st0 hk => have st := st0.1; ⟨⟨st.1.at fun o e => hk I (by simp) o e, st.2.1.at fun o e => hk a (by simp) o e, hk p (by simp) _ st.2.2⟩, hotK st0.2 (hk x1 (by simp))⟩
  item := fun i s Q E hi st0 hQ => by
    obtain ⟨st, hot⟩ := st0
    have e := List.getElem?_eq_getElem hi
    have hlt : ys[i] < es.size := hy _ (List.getElem_mem hi)
    have e2 := Array.getElem?_eq_getElem hlt
    refine next_drawn_item st.1 st.2.1 hf st.2.2 e e2 fun h' hit' hs' => ?_
    have hpv : (ys[i]?).bind (fun q => (es[q]?).map (·.2)) = some (es[ys[i]]'hlt).2 := by
      rw [e]
      show (es[ys[i]]?).map (·.2) = _
      rw [e2] <;> rfl
    exact hQ _ h' s.toks hpv ⟨⟨hit', st.2.1.at fun o q => hs'.extBut a o hne q, hs'.extBut p _ hpe st.2.2⟩, hotK hot (fun o q => hs'.extBut x1 o hx1 q)⟩ fun b o hb q => hs'.extBut b o (fun z => hb (by simp [z])) q
  done := fun s Q E st0 hQ => by
    obtain ⟨st, hot⟩ := st0
    have e : ys[ys.length]? = none := List.getElem?_eq_none (Nat.le_refl _)
    refine next_drawn_endH hot hx1 st.1 st.2.1 hf st.2.2 e fun h' he' => ?_
    exact hQ h' s.toks fun b o hb q => he' b o (fun z => hb (by simp [z])) q
  self := fun _ _ _ _ st hQ => iter_self st.1.1 hQ
end
section
variable {P : Program} {w : World} {A : Around} {E : Value → Shared → Prop} {s : Shared} {a : Addr} {es : Array (Int × Value)} {ep : Nat} {t : SetTable}
/-- what iter(set) gives while an exception is handled -/
def SetItH (P : Program) (w : World) (s : Shared) (a : Addr) (es : Array (Int × Value)) (s₂ : Shared) (I : Addr) : Prop :=
  ∃ (fp : List Addr) (St : Nat → Heap → Prop) (out : List Value) (Pv : Nat → Value → Prop), (∀ b o, s.heap.get? b = some o → s₂.heap.get? b = some o) ∧ s₂.gens = s.gens ∧ s₂.os = s.os ∧ s₂.toks = s.toks ∧
    s.heap.objs.size ≤ I ∧ (∀ b ∈ fp, b = a ∨ s.heap.objs.size ≤ b) ∧ out.Perm (es.toList.map (·.2)) ∧ (∀ (A' : Around) (x1 : Addr), x1 ≠ I → Walks P w A' I (fp ++ [x1]) [I] out.length Pv (fun i h => St i h ∧ HotAt A' x1 h)) ∧
    (∀ j v, Pv j v → out[j]? = some v) ∧ St 0 s₂.heap
theorem SetItH.of {s₂ : Shared} {I : Addr} {fp : List Addr} {St : Nat → Heap → Prop} {out : List Value} {Pv : Nat → Value → Prop} {n : Nat} (W : ∀ (A' : Around) (x1 : Addr), x1 ≠ I → Walks P w A' I (fp ++ [x1]) [I] n Pv (fun i h => St i h ∧ HotAt A' x1 h)) (hn : out.length = n)
    (k : ∀ b o, s.heap.get? b = some o → s₂.heap.get? b = some o) (g : s₂.gens = s.gens) (ho : s₂.os = s.os) (tk : s₂.toks = s.toks) (hI : s.heap.objs.size ≤ I) (hfp : ∀ b ∈ fp, b = a ∨ s.heap.objs.size ≤ b)
    (hp : out.Perm (es.toList.map (·.2))) (hPv : ∀ j v, Pv j v → out[j]? = some v) (hst : St 0 s₂.heap) : SetItH P w s a es s₂ I := by
  subst hn
  exact ⟨fp, St, out, Pv, k, g, ho, tk, hI, hfp, hp, W, hPv, hst⟩
theorem iter_setH {Q : Value → Shared → Prop} (ha : SetAt s.heap a es ep t) (hf : t.fits es.size = true) (hsz : es.size < scanBound) (r : Ris t.place.toList)
    (hl : w.params.followText "set-order" = true ∨ t.led = true) (hQ : ∀ s₂ I, SetItH P w s a es s₂ I → Q (.ref I) s₂) : wpAny (model P w) A (pyIter (.ref a)) Q E s := by
  obtain ⟨o, ho, hc, hd⟩ := id ha
  have hT : s.TypeIs (.ref a) "set" := ⟨o, ho, hc⟩
  have hlt : a < s.heap.objs.size := Heap.lt_size ho
  refine wpAny_pyIter_slot hT F.slot_set_iter (wpAny_call_entry F.slot_set_iter hT entry_s_iter ?_ (F.args_set_iter_1 _))
  unfold Builtin.«frozenset.__iter__»
  refine wpAny_bind (m := Builtin.Frozenset.slot0 "__iter__" _) (wpAny_of_eq (a := a) (by rfl) ?_)
  refine wpAny_bind (m := Builtin.Frozenset.sizeOf a) ?_
  unfold Builtin.Frozenset.sizeOf
  refine wpAny_bind (wpAny_setEntries_of ho hd hf (wpAny_pure ?_))
  first | refine wpAny_bind (setDrawn_at ha hf ?_) | refine wpAny_bind (wpAny_bind (setDrawn_at ha hf ?_))
  cases hb : w.params.followText "set-order" with
  | true =>
    refine wp_if_neg (by simp) ?_
    first | refine wpAny_bind (wpAny_pure ?_) | refine wpAny_pure ?_
    refine wpAny_bind (wpAny_setEpoch_of ho hd hf ?_)
    refine wpAny_bind (wpAny_newObj_type (wpAny_pure ⟨_, rfl, "set_iterator", _, ⟨_, Heap.get?_push_size _ rfl, rfl⟩, slot_si_next.lookup, ?_⟩))
    have hne : a ≠ s.heap.objs.size := Nat.ne_of_lt hlt
    have hp := pick_perm (w.params.setOrder a ep) es
    have hlen : ((pickOrder (w.params.setOrder a ep) es).toList.map (·.2)).length = (pickOrder (w.params.setOrder a ep) es).size := by rw [List.length_map, Array.length_toList]
    refine hQ _ _ (SetItH.of (fp := [s.heap.objs.size, a]) (St := fun i h => IsSI h s.heap.objs.size (.int ((0 : Nat) : Int) 0) i a es.size ep ∧ SetAt h a es ep t) (fun A' x1 hA' => walks_textH (P := P) (ep := ep) hA' hne hf hb) hlen (fun b u e => Heap.get?_push_of_some _ e) rfl rfl rfl (Nat.le_refl _) (fun b hb' => ?_) (hp.map _)
      (fun j v q => ?_) ⟨⟨_, Heap.get?_push_size _ rfl, rfl, rfl⟩, ha.at fun u e => Heap.get?_push_of_some _ e⟩)
    · rcases List.mem_cons.mp hb' with z | z
      · exact .inr (Nat.le_of_eq z.symm)
      · exact .inl (List.mem_singleton.mp z)
    · rw [List.getElem?_map, Array.getElem?_toList]; exact q
  | false =>
    have hled : t.led = true := hl.resolve_left (by rw [hb]; exact Bool.false_ne_true)
    cases hdr : (!t.plain && decide (es.size > 1)) with
    | false =>
      refine wp_if_neg (by simp) ?_
      first | refine wpAny_bind (wpAny_pure ?_) | refine wpAny_pure ?_
      refine wpAny_bind (wpAny_setEpoch_of ho hd hf ?_)
      refine wpAny_bind (wpAny_newObj_type (wpAny_pure ⟨_, rfl, "set_iterator", _, ⟨_, Heap.get?_push_size _ rfl, rfl⟩, slot_si_next.lookup, ?_⟩))
      have hne : a ≠ s.heap.objs.size := Nat.ne_of_lt hlt
      have hlen : (es.toList.map (·.2)).length = es.size := by rw [List.length_map, Array.length_toList]
      refine hQ _ _ (SetItH.of (fp := [s.heap.objs.size, a]) (St := fun i h => IsSI h s.heap.objs.size (.int ((slotAt t i : Nat) : Int) 0) i a es.size ep ∧ SetAt h a es ep t) (fun A' x1 hA' => walks_ledH (P := P) (ep := ep) hA' hne hf r hb hdr hled) hlen (fun b u e => Heap.get?_push_of_some _ e) rfl rfl rfl (Nat.le_refl _) (fun b hb' => ?_) (List.Perm.refl _)
        (fun j v q => ?_) ⟨⟨_, Heap.get?_push_size _ rfl, rfl, rfl⟩, ha.at fun u e => Heap.get?_push_of_some _ e⟩)
      · rcases List.mem_cons.mp hb' with z | z
        · exact .inr (Nat.le_of_eq z.symm)
        · exact .inl (List.mem_singleton.mp z)
      · rw [List.getElem?_map, Array.getElem?_toList]; exact q
    | true =>
      refine wp_if_pos rfl ?_
      refine wpAny_bind (drawOrder_at _ _ _ _ (Nat.le_of_eq List.length_range) fun ys d hp => ?_)
      have hyl : ys.length = es.size := by rw [hp.length_eq, List.length_range]
      have hsl : (ys.map fun (k : Nat) => rawInt (k : Int)).length ≤ sizeLine := by rw [List.length_map, hyl]; exact fits_of_scanBound hsz
      first | refine wpAny_bind (wpAny_newTuple ?_ hsl) | refine wpAny_newTuple ?_ hsl
      have ho2 : (s.heap.push { cls := .type "tuple", data := .seq (ys.map fun (k : Nat) => rawInt (k : Int)).toArray }).get? a = some o := Heap.get?_push_of_some _ ho
      refine wpAny_bind (wpAny_setEpoch_of ho2 hd hf ?_)
      refine wpAny_bind (wpAny_newObj_type (wpAny_pure ⟨_, rfl, "set_iterator", _, ⟨_, Heap.get?_push_size _ rfl, rfl⟩, slot_si_next.lookup, ?_⟩))
      have hsz2 : (s.heap.push { cls := .type "tuple", data := .seq (ys.map fun (k : Nat) => rawInt (k : Int)).toArray }).objs.size = s.heap.objs.size + 1 := size_push' _ _
      have hne : a ≠ (s.heap.push { cls := .type "tuple", data := .seq (ys.map fun (k : Nat) => rawInt (k : Int)).toArray }).objs.size := by rw [hsz2]; exact Nat.ne_of_lt (Nat.lt_succ_of_lt (Heap.lt_size ho))
      have hpe : s.heap.objs.size ≠ (s.heap.push { cls := .type "tuple", data := .seq (ys.map fun (k : Nat) => rawInt (k : Int)).toArray }).objs.size := by rw [hsz2]; omega
      have hys : ∀ j ∈ ys, j < es.size := fun j hj => List.mem_range.mp (hp.mem_iff.mp hj)
      have hlen : (ys.map fun q => ((es[q]?).map (·.2)).getD Value.none).length = ys.length := List.length_map _
      have hpm : (ys.map fun q => ((es[q]?).map (·.2)).getD Value.none).Perm (es.toList.map (·.2)) := by
        rw [← range_map es]
        exact hp.map _
      refine hQ _ _ (SetItH.of (fp := [(s.heap.push { cls := .type "tuple", data := .seq (ys.map fun (k : Nat) => rawInt (k : Int)).toArray }).objs.size, a, s.heap.objs.size]) (St := fun i h => IsSI h (s.heap.push { cls := .type "tuple", data := .seq (ys.map fun (k : Nat) => rawInt (k : Int)).toArray }).objs.size (.ref s.heap.objs.size) i a es.size ep ∧ SetAt h a es ep t ∧ h.get? s.heap.objs.size = some { cls := .type "tuple", data := .seq (ys.map fun (k : Nat) => rawInt (k : Int)).toArray }) (fun A' x1 hA' => walks_drawnH (P := P) (w := w) (ep := ep) (t := t) hA' hne hpe hf hys) hlen (fun b u e => Heap.get?_push_of_some _ (Heap.get?_push_of_some _ e)) rfl rfl rfl ?_ (fun b hb' => ?_) hpm
        (fun j v q => ?_) ⟨⟨_, Heap.get?_push_size _ rfl, rfl, rfl⟩, ha.at fun u e => Heap.get?_push_of_some _ (Heap.get?_push_of_some _ e), Heap.get?_push_of_some _ (Heap.get?_push_size _ rfl)⟩)
      · rw [hsz2]; exact Nat.le_succ _
      · rcases List.mem_cons.mp hb' with z | z
        · exact .inr (by rw [z, hsz2]; exact Nat.le_succ _)
        · rcases List.mem_cons.mp z with z | z
          · exact .inl z
          · exact .inr (Nat.le_of_eq (List.mem_singleton.mp z).symm)
      · rw [List.getElem?_map]
        cases hy : ys[j]? with
        | none => rw [hy] at q; cases q
        | some k =>
          rw [hy] at q
          have q' : (es[k]?).map (·.2) = some v := q
          show some (((es[k]?).map (·.2)).getD Value.none) = some v
          rw [q'] <;> rfl


theorem collect_setH {x1 : Addr} {Q : List Value → Shared → Prop} (hh : HotAt A x1 s.heap) (ha : SetAt s.heap a es ep t) (hf : t.fits es.size = true) (hsz : es.size < scanBound) (r : Ris t.place.toList)
    (hl : w.params.followText "set-order" = true ∨ t.led = true)
    (hQ : ∀ s' out, (∀ b o, s.heap.get? b = some o → s'.heap.get? b = some o) → s.heap.objs.size ≤ s'.heap.objs.size → s'.gens = s.gens → s'.os = s.os → out.Perm (es.toList.map (·.2)) → Q out s') :
    wpAny (model P w) A (collect (.ref a)) Q E s := by
  obtain ⟨o, ho, hc, hd⟩ := id ha
  have hlt : a < s.heap.objs.size := Heap.lt_size ho
  have hSa : s.heap.objs.size ≠ a := Nat.ne_of_gt hlt
  unfold collect
  refine wpAny_bind (wpAny_runValue (codeAny_builtin F.entry_proto_collect ?_))
  rw [Around.under_plainId F.plain_proto_collect _]
  show wpAny _ A.in1 (newList [] >>= fun l => again (.builtin "list.__iadd__" ⟨[l, .ref a], []⟩)) _ _ s
  refine wpAny_bind (wpAny_newObj_type ?_)
  refine wpAny_pure ⟨plainId_quiet F.plain_list_iadd _, codeAny_builtin F.entry_list_iadd ?_⟩
  rw [Around.under_plainId F.plain_list_iadd _]
  have hS : (s.heap.push { cls := .type "list", data := .seq ([] : List Value).toArray }).get? s.heap.objs.size = some { cls := .type "list", data := .seq ([] : List Value).toArray } := Heap.get?_push_size _ rfl
  have ha1 : SetAt (s.heap.push { cls := .type "list", data := .seq ([] : List Value).toArray }) a es ep t := ha.at fun u e => Heap.get?_push_of_some _ e
  have hz1 : (s.heap.push { cls := .type "list", data := .seq ([] : List Value).toArray }).objs.size = s.heap.objs.size + 1 := size_push' _ _
  show wpAny _ A.in1 (Builtin.List.listExtendWith (.ref s.heap.objs.size) (.ref a) (.ref s.heap.objs.size)) _ _ _
  unfold Builtin.List.listExtendWith
  refine wpAny_bind (wpAny_typeOf (T := "set") ⟨o, Heap.get?_push_of_some _ ho, hc⟩ ?_)
  have h1 : Builtin.List.listSameRef (.ref s.heap.objs.size) (.ref a) = false := by simp [Builtin.List.listSameRef, hSa]
  have h2 : (Value.type "set" == Value.type "list") = false := by decide
  have h3 : (Value.type "set" == Value.type "tuple") = false := by decide
  simp only [h1, h2, h3, Bool.or_false, Bool.false_eq_true, if_false]
  refine wpAny_bind (iter_setH (s := { s with heap := s.heap.push { cls := .type "list", data := .seq ([] : List Value).toArray } }) ha1 hf hsz r hl fun s₂ I hit => ?_)
  obtain ⟨fp, St, out, Pv, k2, g2, o2, t2, hI, hfp, hp, hW, hPv, hst⟩ := hit
  have hI' : s.heap.objs.size + 1 ≤ I := by rw [← hz1]; exact hI
  have hSf : s.heap.objs.size ∉ fp := fun hm => by
    rcases hfp _ hm with z | z
    · exact hSa z
    · have z' : s.heap.objs.size + 1 ≤ s.heap.objs.size := by rw [← hz1]; exact z
      omega
  have ho2 := k2 a o (Heap.get?_push_of_some _ ho)
  have hT2 : s₂.TypeIs (.ref a) "set" := ⟨o, ho2, hc⟩
  refine wpAny_bind (wpAny_holding ?_)
  unfold Builtin.List.listLengthHint
  refine wpAny_bind (wpAny_specialOf hT2 F.slot_set_len.lookup ?_)
  (generalize hid : ("set.__len__" : String) = id0; (fail_if_success (clear hid id0)); wp_delta; rw [show splitId id0 = some ("set", "__len__") from by subst hid; decide +kernel]; subst hid)
  refine wpAny_bind (wpAny_isInstance (b := true) hT2 sub_set_self ?_)
  show wpAny _ A.in1 (typeOf (.ref a) >>= _) _ _ _
  refine wpAny_bind (wpAny_typeOf hT2 ?_)
  refine wpAny_pure ?_
  show wpAny _ A.in1 (rule "list.extend.makes-room" >>= fun _ => Builtin.List.listTouch (.ref s.heap.objs.size) >>= fun _ =>
    again (.builtin "list.extend.loop" ⟨[.ref s.heap.objs.size, .ref I, .ref s.heap.objs.size], []⟩)) _ _ _
  refine wpAny_bind (wpAny_rule ?_)
  have hS2 := k2 _ _ hS
  refine wpAny_bind ?_
  show wpAny _ A.in1 (updateSeq s.heap.objs.size (·.push .none) >>= fun _ => updateSeq s.heap.objs.size (·.pop)) _ _ _
  refine wpAny_bind (wpAny_updateSeq hS2 rfl ?_)
  have hS3 := Heap.get?_update_self (Obj.mapSeq (·.push Value.none)) hS2 rfl
  refine wpAny_updateSeq hS3 rfl ?_
  have hS4 := Heap.get?_update_self (Obj.mapSeq (·.pop)) hS3 rfl
  have oth : ∀ b u, b ≠ s.heap.objs.size → s₂.heap.get? b = some u → ((s₂.heap.update s.heap.objs.size (Obj.mapSeq (·.push Value.none))).update s.heap.objs.size (Obj.mapSeq (·.pop))).get? b = some u :=
    fun b u hb e => (Heap.get?_update_other _ _ (Ne.symm hb)).trans ((Heap.get?_update_other _ _ (Ne.symm hb)).trans e)
  have hn : out.length ≤ sizeLine := by
    rw [hp.length_eq, List.length_map, Array.length_toList]
    exact fits_of_scanBound hsz
  obtain ⟨hA1, o1, vs1, g1x, d1x, c1x⟩ := hh
  have l1 : x1 < s.heap.objs.size := Heap.lt_size g1x
  have hxI : x1 ≠ I := Nat.ne_of_lt (Nat.lt_of_lt_of_le l1 (Nat.le_of_succ_le hI'))
  have W := hW A.in1 x1 hxI
  have hot2 : HotAt A.in1 x1 s₂.heap := ⟨hA1, o1, vs1, k2 x1 o1 (Heap.get?_push_of_some _ g1x), d1x, c1x⟩
  have hSf : s.heap.objs.size ∉ fp ++ [x1] := fun z => by
    rcases List.mem_append.mp z with z | z
    · exact hSf z
    · exact absurd l1 (by rw [List.mem_singleton.mp z]; exact Nat.lt_irrefl _)
  have hst2 := W.frame 0 s₂.heap ((s₂.heap.update s.heap.objs.size (Obj.mapSeq (·.push Value.none))).update s.heap.objs.size (Obj.mapSeq (·.pop))) ⟨hst, hot2⟩ fun b hb u e => oth b u (fun z => hSf (z ▸ hb)) e
  refine wpAny_pure ⟨plainId_quiet F.plain_extend_loop _, codeAny_extend_loopS W.toS hn _ hSf _ out.length 0 _ _ _ rfl (Nat.zero_le _) hst2 hS4 (ItemsOf.nil Pv) fun s' acc' c' hm hS' hacc => ?_⟩
  show wpAny _ A (load s.heap.objs.size >>= _) _ _ s'
  refine wpAny_bind (wpAny_load hS' ?_)
  have eo := items_out hacc hPv
  refine wpAny_pure ?_
  show Q acc'.toList s'
  rw [eo]
  refine hQ s' out (fun b u e => ?_) (Nat.le_of_lt (Heap.lt_size hS')) (Eq.trans hm.gens g2) (Eq.trans hm.os o2) hp
  have hbl : b < s.heap.objs.size := Heap.lt_size e
  refine hm.heap b u (fun z => ?_) (oth b u (Nat.ne_of_lt hbl) (k2 b u (Heap.get?_push_of_some _ e)))
  rcases List.mem_cons.mp z with z | z
  · first
      | exact absurd hbl (by rw [z]; exact Nat.lt_irrefl _)
      | exact absurd hbl (by rw [z]; exact Nat.not_lt_of_le (Nat.le_of_succ_le hI'))
  · have z := List.mem_singleton.mp z
    first
      | exact absurd hbl (by rw [z]; exact Nat.lt_irrefl _)
      | exact absurd hbl (by rw [z]; exact Nat.not_lt_of_le (Nat.le_of_succ_le hI'))


theorem sorted_setH {x1 : Addr} {S : Int → Bool} {n : Nat} {Q : Value → Shared → Prop} (R : SetR w s.heap a S n) (hh : HotAt A x1 s.heap) (h64 : n < 64)
    (hQ : ∀ s' p (out : Array Value) (c : Nat) (ns : List Int), (∀ b o, s.heap.get? b = some o → s'.heap.get? b = some o) → s'.gens = s.gens → s'.os = s.os → s.heap.objs.size ≤ p →
      s'.heap.get? p = some (seqObj "list" out c) → IntsAre out.toList ns → ns.Pairwise (· < ·) → (∀ k, k ∈ ns ↔ S k = true) → ns.length = n → Q (.ref p) s') :
    wpAny (model P w) A (call (.builtin "sorted") [.ref a]) Q E s := by
  obtain ⟨o, es, ep, t, ho, hex, hd, g, nd, hm, hb, hf, hn, hr, hl⟩ := R
  refine Calls.call_function_entry kind_sorted plain_sorted entry_sorted (args_sorted1 _) ?_
  unfold Builtin.«sorted»
  refine wpAny_bind (m := checkCount "sorted" 1 1 _) (wpAny_pure ?_)
  refine wpAny_bind (collect_setH (A := A.in1) hh ⟨o, ho, hex.1, hd⟩ hf hb hr hl fun s1 vs k1 hz g1 o1 pm => ?_)
  have hvl : vs.length = n := by rw [pm.length_eq, List.length_map, Array.length_toList]; exact hn
  have hI : IntsAre vs (vs.map Builtin.Re.reRawOf) := ints_of vs fun v hv => by
    obtain ⟨e, he, q⟩ := List.mem_map.mp (pm.mem_iff.mp hv)
    obtain ⟨k, tk, h1, _⟩ := g e he
    exact ⟨k, tk, by rw [← q]; exact h1⟩
  have pk : (vs.map Builtin.Re.reRawOf).Perm (es.toList.map keyOf) := by
    have q := pm.map Builtin.Re.reRawOf
    rw [List.map_map] at q
    exact q
  refine wpAny_bind (wpAny_newList ?_ (by rw [hvl, sizeLine_eq]; omega))
  have hoL : (s1.heap.push (seqObj "list" vs.toArray 0)).get? s1.heap.objs.size = some (seqObj "list" vs.toArray 0) := Heap.get?_push_size _ rfl
  refine wpAny_bind (wpAny_holding (wpAny_call_entry slot_list_sort ⟨_, hoL, rfl⟩ entry_list_sort (list_sort_tree hoL hI (by rw [hvl]; exact h64) fun out ns' a1 a2 a3 => ⟨_, rfl, ?_⟩) (args_list_sort _)))
  obtain ⟨c, hc⟩ := sortedHeap_at (vs := vs) (out := out) hoL
  have pn : ns'.Perm (es.toList.map keyOf) := a2.trans pk
  refine wpAny_pure ⟨_, rfl, hQ _ s1.heap.objs.size out c ns' (fun b u e => ?_) g1 o1 hz hc a1 (lt_of_le_nodup ns' a3 (pn.nodup_iff.mpr nd)) (fun k => by rw [pn.mem_iff, ← hm k]) ?_⟩
  · have q := k1 b u e
    have hlt := Heap.lt_size q
    show (sortedHeap (s1.heap.push (seqObj "list" vs.toArray 0)) s1.heap.objs.size vs out).get? b = some u
    rw [sortedHeap_old (Nat.ne_of_lt hlt) (by rw [size_push']; exact Nat.lt_succ_of_lt hlt)]
    exact Heap.get?_push_of_some _ q
  · rw [pn.length_eq, List.length_map, Array.length_toList]; exact hn
end
end Cq

set_option Elab.async false
set_option linter.all false
set_option maxRecDepth 100000
set_option maxHeartbeats 2000000
namespace Cq
open PySem PySem.Spec PyProof.Rows L2 HotX
section
variable {prog : Program} {w : World} {A : Around} {E : Value → Shared → Prop} {s : Shared}
theorem pyNext_list_end_hot {it t x1 : Addr} {i : Nat} {items : Array Value} {Q : Option Value → Shared → Prop} (hot : HotAt A x1 s.heap) (hit : s.heap.IsListIter it t i) (ht : s.heap.IsList t items) (hx : items[i]? = none) (hne : x1 ≠ it)
    (hQ : ∀ h', (∀ b o, b ≠ it → s.heap.get? b = some o → h'.get? b = some o) → Q none { s with heap := h' }) : wpAny (model prog w) A (pyNext (.ref it)) Q E s := by
  obtain ⟨o, ho, hc, hd⟩ := id hit
  obtain ⟨ol, hol, _, nl, hdl⟩ := ht
  obtain ⟨hh, o1, vs1, h1, d1, c1⟩ := hot
  unfold pyNext
  refine wpAny_bind (wpAny_attempt (wpAny_callSpecial?_slot (name := Str.ofString "__next__") hit.typeIs slot_listiter_next
    (wpAny_call_entry slot_listiter_next hit.typeIs entry_listiter_next ?_ (args_listiter_next _))))
  show wpAny _ _ (field (.ref it) 0 >>= _) _ _ s
  refine wpAny_bind (wpAny_field ho hd (x := .ref t) rfl ?_)
  show wpAny _ _ (if (Value.ref t == Value.none) = true then _ else _) _ _ s
  rw [if_neg (show ¬ ((Value.ref t == Value.none) = true) from Bool.false_ne_true)]
  show wpAny _ _ (field (.ref it) 1 >>= _) _ _ s
  refine wpAny_bind (wpAny_field ho hd (x := .int i 0) rfl ?_)
  show wpAny _ _ (seqItems? (.ref t) >>= _) _ _ s
  refine wpAny_bind (wpAny_seqItems hol hdl ?_)
  simp only [Int.toNat_natCast, hx]
  refine wpAny_bind (wpAny_rule (wpAny_bind (wpAny_setField ho hd (by simp) ?_)))
  show wpAny _ _ (newExc (.type "StopIteration") [] >>= _) _ _ _
  refine wpAny_bind ?_
  simp only [newExc, newTuple]
  refine wpAny_bind (wpAny_newObj_type ?_ (by size_fits))
  refine wpAny_bind (m := firstArgMember _ _) (wpAny_of_eq (a := Value.none) (by first | rfl | (simp only [firstArgMember]; rfl)) ?_)
  refine wpAny_newObj_type ?_ (by size_fits)
  refine raiseNew_hot ⟨hh, o1, vs1, Heap.get?_push_of_some _ (Heap.get?_push_of_some _ ((Heap.get?_update_other _ _ (Ne.symm hne)).trans h1)), d1, c1⟩ (Nat.ne_of_lt (Heap.lt_size (Heap.get?_push_of_some _ ((Heap.get?_update_other _ _ (Ne.symm hne)).trans h1)))) (Heap.get?_push_size _ rfl) rfl (by first | (simp; done) | (simp; omega) | (simp only [Array.size_append]; simp; omega)) ?_
  refine wpAny_bind (wpAny_isInstance (T := "StopIteration") (b := true) ⟨_, Heap.get?_update_self _ (Heap.get?_push_size _ rfl) rfl, rfl⟩ isSubtype_stop ?_)
  refine wpAny_pure (hQ _ fun b o hb e => ?_)
  have e2 := (Heap.get?_update_other s.heap (Obj.mapFields (·.setIfInBounds 0 Value.none)) (Ne.symm hb)).trans e
  rw [Heap.get?_update_other _ _ (Nat.ne_of_gt (Heap.lt_size (Heap.get?_push_of_some _ e2)))]
  exact Heap.get?_push_of_some _ (Heap.get?_push_of_some _ e2)
theorem walks_listH {x1 I : Addr} (hx1 : x1 ≠ I) (ax : Addr) (hne : ax ≠ I) (items : Array Value) :
    Walks prog w A I [I, ax, x1] [I] items.size (fun i v => items[i]? = some v) (fun i h => (h.IsListIter I ax i ∧ h.IsList ax items) ∧ HotAt A x1 h) where
  sub := fun b hb => by simp at hb; simp [hb]
  frame := fun _ _ _ st hk => ⟨⟨st.1.1.at fun o e => hk I (by simp) o e, st.1.2.at fun o e => hk ax (by simp) o e⟩, hotK st.2 (hk x1 (by simp))⟩
  item := fun i s Q E hi st0 hQ => by
    obtain ⟨st, hot⟩ := st0
    refine wpAny_pyNext_list_item st.1 st.2 (x := items[i]) (by simp [hi]) fun h' hit' hs' => ?_
    exact hQ _ h' s.toks (by simp [hi]) ⟨⟨hit', st.2.extBut hs'.extBut hne⟩, hotK hot fun o e => hs'.extBut x1 o hx1 e⟩ fun b o hb e => hs'.extBut b o (fun h => hb (by simp [h])) e
  done := fun s Q E st hQ => pyNext_list_end_hot st.2 st.1.1 st.1.2 (by simp) hx1 fun h' he' => hQ h' s.toks fun b o hb e => he' b o (fun h => hb (by simp [h])) e
  self := fun _ _ _ _ st hQ => wpAny_pyIter_listiter st.1.1 hQ
end
section
variable {P : Program} {w : World} {A : Around} {E : Value → Shared → Prop} {s : Shared}
set_option maxHeartbeats 3200000 in
/-- set(list of ints): the set that is made can be walked -/
theorem call_set_listH {x1 : Addr} {l : Addr} {items : Array Value} (ns : List Int) {Q : Value → Shared → Prop} (hh : HotAt A x1 s.heap) (hl : s.heap.IsList l items) (hit : IntsAre items.toList ns) (hb : ns.length + 1 < scanBound)
    (h : ∀ (h' : Heap) (tk c : Nat), SetR w h' s.heap.objs.size (fun j => decide (j ∈ ns)) c → c ≤ ns.length → (∀ b o, s.heap.get? b = some o → h'.get? b = some o) → Q (.ref s.heap.objs.size) { s with heap := h', toks := tk }) :
    wpAny (model P w) A (call (.type "set") [.ref l]) Q E s := by
  have hisz : items.size = ns.length := by
    have q := IntsAre.length hit
    rw [Array.length_toList] at q
    exact q
  obtain ⟨c, tl, hmro⟩ := F.called_set.mro
  have hmade := F.called_set.made
  have hsub := F.called_set.sub
  refine wpAny_call (codeAny_of_tree ?_)
  show wpAny _ _ (callAny (.type "set") _) _ _ _
  refine wpAny_pure ⟨Code.quiet_builtin _ (by decide +kernel), codeAny_builtin F.entry_type_call ?_⟩
  rw [Around.under_plain (weight_type_call_type "set" [.ref l] []) rfl]
  have h1 := F.called_set.notType
  have h2 := F.called_set.canCreate
  have hct := F.typeCall_set_1 (.ref l)
  repeat (any_goals (first | assumption | wp_step))

  refine codeAny_mono (code_set_led1 (.ref l) (E := E) (Q₁ := fun obj s₁ => obj = .ref s.heap.objs.size ∧ s₁ = { s with heap := s.heap.push { cls := .type "set", dict := none, data := .set #[] 0 (.fresh 0 0 (!w.params.followText "set-order")) } }) ⟨rfl, rfl⟩) fun r s₁ hr => ?_
  cases r with
  | error e => exact hr
  | ok fl =>
    cases fl with
    | ret obj =>
      obtain ⟨rfl, rfl⟩ := hr
      have hS : (s.heap.push { cls := .type "set", dict := none, data := .set #[] 0 (.fresh 0 0 (!w.params.followText "set-order")) }).get? s.heap.objs.size = some { cls := .type "set", dict := none, data := .set #[] 0 (.fresh 0 0 (!w.params.followText "set-order")) } := Heap.get?_push_size _ rfl
      have hT : Shared.TypeIs { s with heap := s.heap.push { cls := .type "set", dict := none, data := .set #[] 0 (.fresh 0 0 (!w.params.followText "set-order")) } } (.ref s.heap.objs.size) "set" := ⟨_, hS, rfl⟩
      have hli := F.called_set.init.lookup
      have hbi := F.called_set.init.bind (.ref s.heap.objs.size)
      repeat (any_goals (first | assumption | wp_step))

      refine codeAny_mono (codeAny_call_builtin (R := wants (fun r s₂ => r = .none ∧ ∃ h' tk c, s₂ = { s with heap := h', toks := tk } ∧ SetR w h' s.heap.objs.size (fun j => decide (j ∈ ns)) c ∧ c ≤ ns.length ∧
          (∀ b o, s.heap.get? b = some o → h'.get? b = some o)) E) F.called_set.init.plain F.entry_set_init (check_set_init_1 hT ?_)) fun r₂ s₂ hr₂ => ?_
      · obtain ⟨ol, hol, hcl, nl, hdl⟩ := hl
        obtain ⟨ocls, odict, odata, oslots⟩ := ol
        simp only at hcl hdl
        subst hcl; subst hdl
        have hol' : (s.heap.push { cls := .type "set", dict := none, data := .set #[] 0 (.fresh 0 0 (!w.params.followText "set-order")) }).get? l = some { cls := .type "list", dict := odict, data := .seq items nl, slots := oslots } := Heap.get?_push_of_some _ hol
        have hsls := F.sub_list_set
        have hslf := F.sub_list_frozenset
        have hne : (Value.type "list" == Value.type "dict") = false := by decide
        have hl1 : (s.heap.push { cls := .type "set", dict := none, data := .set #[] 0 (.fresh 0 0 (!w.params.followText "set-order")) }).IsList l items := ⟨_, hol', rfl, nl, rfl⟩
        unfold Builtin.«set.__init__» noKeywords Builtin.Frozenset.updateFrom
        generalize hPI : pyIter = PI
        wp_walk
        subst hPI

        refine wpAny_pyIter_list hl1 ?_
        refine wpAny_bind (wpAny_runValue ?_)
        have hlS : l < s.heap.objs.size := Heap.lt_size hol
        obtain ⟨hA1, o1, vs1, g1x, d1x, c1x⟩ := hh
        have lx : x1 < s.heap.objs.size := Heap.lt_size g1x
        have hz1 : (s.heap.push { cls := .type "set", dict := none, data := .set #[] 0 (.fresh 0 0 (!w.params.followText "set-order")) }).objs.size = s.heap.objs.size + 1 := Heap.size_push ..
        have hneI : l ≠ (s.heap.push { cls := .type "set", dict := none, data := .set #[] 0 (.fresh 0 0 (!w.params.followText "set-order")) }).objs.size := by
          rw [Heap.size_push]; exact Nat.ne_of_lt (Nat.lt_succ_of_lt hlS)
        have hxI : x1 ≠ (s.heap.push { cls := .type "set", dict := none, data := .set #[] 0 (.fresh 0 0 (!w.params.followText "set-order")) }).objs.size := by
          rw [Heap.size_push]; exact Nat.ne_of_lt (Nat.lt_succ_of_lt lx)
        have hSf : s.heap.objs.size ∉ [(s.heap.push { cls := .type "set", dict := none, data := .set #[] 0 (.fresh 0 0 (!w.params.followText "set-order")) }).objs.size, l, x1] := by
          rw [Heap.size_push]; simp only [List.mem_cons, List.mem_singleton, List.not_mem_nil, or_false, not_or]
          exact ⟨Nat.ne_of_lt (Nat.lt_succ_self _), Nat.ne_of_gt hlS, Nat.ne_of_gt lx⟩
        have hval : ∀ (i : Nat) (v : Value), items[i]? = some v → ∃ k t, ns[i]? = some k ∧ v = .int k t := fun i v hv => by
          have hi : i < ns.length := by rw [← hisz]; exact (Array.getElem?_eq_some_iff.mp hv).1
          obtain ⟨t, e⟩ := PyProof.Rows.IntsAre.int_at hit i v (by rw [Array.getElem?_toList]; exact hv)
          refine ⟨ns[i], t, List.getElem?_eq_getElem hi, ?_⟩
          rw [e, List.getD_eq_getElem?_getD, List.getElem?_eq_getElem hi] <;> rfl
        refine set_update_ints ((walks_listH (x1 := x1) hxI l hneI items).toS) s.heap.objs.size
          hSf ns hisz hb hval (items.size - 0) 0 _ (by omega) (Nat.zero_le _)
          ⟨⟨⟨_, Heap.get?_push_size _ rfl, rfl, rfl⟩, (hl1.push _)⟩, ⟨by simp [hA1], o1, vs1, Heap.get?_push_of_some _ (Heap.get?_push_of_some _ g1x), d1x, c1x⟩⟩ ?hS0 ?hR
        case hS0 =>
          have hget : ((s.heap.push { cls := .type "set", dict := none, data := .set #[] 0 (.fresh 0 0 (!w.params.followText "set-order")) }).push { cls := .type "list_iterator", data := .fields #[.ref l, .int 0 0] }).get? s.heap.objs.size
              = some { cls := .type "set", dict := none, data := .set #[] 0 (.fresh 0 0 (!w.params.followText "set-order")) } := Heap.get?_push_of_some _ hS
          exact ⟨0, Nat.le_refl 0, setR_new_at hget⟩
        case hR =>
          intro s' c' hm hc' hS'
          obtain ⟨h', g2, d', tk', os'⟩ := s'
          have eg : g2 = s.gens := hm.gens
          have ed : d' = s.drawn := hm.drawn
          have eo : os' = s.os := hm.os
          subst eg; subst ed; subst eo
          show wpAny _ _ _ _ _ _
          refine wpAny_pure ?_
          show wpAny _ _ (ret Value.none) _ _ _
          rw [hisz] at hc'
          refine wpAny_pure ⟨rfl, h', tk', c', rfl, hS', hc', fun b o e => ?_⟩
          have hb0 : b < s.heap.objs.size := Heap.lt_size e
          have hb1 : b ≠ s.heap.objs.size := Nat.ne_of_lt hb0
          have hb2 : b ≠ (s.heap.push { cls := .type "set", dict := none, data := .set #[] 0 (.fresh 0 0 (!w.params.followText "set-order")) }).objs.size := by
            rw [Heap.size_push]; exact Nat.ne_of_lt (Nat.lt_succ_of_lt hb0)
          exact hm.heap b o (by simp only [List.mem_cons, List.mem_singleton, List.not_mem_nil, or_false, not_or]; exact ⟨hb1, hb2⟩) (Heap.get?_push_of_some _ (Heap.get?_push_of_some _ e))

      · cases r₂ with
        | error e => exact hr₂
        | ok fl₂ =>
          cases fl₂ with
          | ret r =>
            obtain ⟨rfl, h', tk, c', rfl, hS', hc', hk'⟩ := hr₂
            repeat (any_goals (first | assumption | wp_step))
            exact h _ _ _ hS' hc' hk'
          | _ => exact hr₂.elim
    | _ => exact hr.elim
end
end Cq

set_option Elab.async false
set_option linter.all false
set_option maxRecDepth 100000
set_option maxHeartbeats 2000000
namespace Cq
open PySem PySem.Spec PyProof.Rows L2 HotX
section
variable {X : Cx} {W : WX} {pos : Pos} {σ : L2.St} {F H F0 H0 : Hp} {g g0 : Gm} {a : Expr} {ta : TE}
theorem sort_stepH {pins : List (Addr × Obj)} {s2 : Shared} {H1 : Hp} {l : Addr} {c : Nat} {ns : List Int} {Q : VK} (I2 : Inv X pins σ H1 s2) (hc : L2H.HotC X) (R : SetR X.w s2.heap l (fun j => decide (j ∈ ns)) c) (hcn : c ≤ ns.length) (h64 : ns.length < 64)
    (q1 : ∀ p, H1 p = none → Q (.ref p) (upd H1 p (.lst ((sdL ns).map V.int)))) : wpAny (model X.prog X.w) X.A (call (.builtin "sorted") [.ref l]) (EP X pins σ Q) X.xe s2 := by
  obtain ⟨x1, hot⟩ := hc.at I2
  refine sorted_setH R hot (by omega) fun s' p out cc ms k g o hp hg hi hs hmm hl => ?_
  have e : ms = sdL ns := srt_uniq hs (srt_sdL ns) fun k => by rw [hmm, mem_sdL]; simp
  subst e
  have hlen : ((sdL ns).map V.int).length ≤ sizeLine := by rw [List.length_map, hl, sizeLine_eq]; omega
  have hn : H1 p = none := I2.hok.fresh hp
  have J : Inv X pins σ (upd H1 p (.lst ((sdL ns).map V.int))) { s2 with heap := s'.heap, gens := s'.gens, drawn := s'.drawn, toks := s'.toks } :=
    I2.call (ch := []) (Un.laid k hp hn) (I2.hok.laid k hp ⟨hlen, out.toList, cc, vals_of_ints hi, hg⟩) (by rw [g]; exact I2.bare) (fun _ z => nomatch z)
  have e : s' = { s2 with heap := s'.heap, gens := s'.gens, drawn := s'.drawn, toks := s'.toks } := by
    cases s'
    cases s2
    cases o
    rfl
  rw [e]
  exact ⟨.ref p, _, J, rfl, q1 p hn⟩

theorem pe_sortSetH {p p2 q pos : Pos} (hc : L2H.HotC X) (hg : Gl X "sorted") (hm : X.mg "sorted" = none) (hg2 : Gl X "set") (hm2 : X.mg "set" = none) (ha : PE X a ta)
    (na : starEach [a] X.env = (false, eval a X.env) :: starEach [] X.env := by rfl) : PE X (.Call (.Name "sorted" p) [.Call (.Name "set" p2) [a] [] q] [] pos) (tSortSet X.K ta) := by
  refine ⟨fun pins s σ H Q I h => ?_⟩
  refine Call_ (ld_blt I hg hm (u := .builtin "sorted") (by decide +kernel) ?_)
  refine PyProof.Rows.callWith_builtin1 (PyProof.Rows.args_cons ?_ rfl) rfl rfl
  refine Call_ (ld_blt I hg2 hm2 PyProof.Rows.boot_set ?_)
  refine PyProof.Rows.callWith_type1 (PyProof.Rows.args_cons (thn (ha.run pins s σ H _ I h) fun v s1 ⟨x, H1, I1, r1, q1⟩ => PyProof.Rows.args_nil ?_) na) na rfl
  obtain ⟨l, ns, rfl, hq, h64, q1⟩ := q1
  cases r1
  obtain ⟨its, r, pl, hz⟩ := I1.list hq
  have hl : its.length = ns.length := by rw [← r.length, List.length_map]
  obtain ⟨x1, hot⟩ := hc.at I1
  refine call_set_listH (P := X.prog) (w := X.w) ns hot pl.isList (by simpa using r.ints) (by unfold scanBound; omega) fun h' tk c R hcn hk => ?_
  refine PyProof.Rows.args_nil ?_
  have I2 : Inv X pins σ H1 { s1 with heap := h', toks := tk } := I1.kept fun b o e => hk b o e
  exact sort_stepH I2 hc R hcn h64 q1

theorem sn_sortSetH {p p2 q pos : Pos} {mo : M Hd} (hc : L2H.HotC X) (hg : Gl X "sorted") (hm : X.mg "sorted" = none) (hg2 : Gl X "set") (hm2 : X.mg "set" = none) (ha : SO X W a mo)
    (na : starEach [a] X.env = (false, eval a X.env) :: starEach [] X.env := by rfl) : SN X W (.Call (.Name "sorted" p) [.Call (.Name "set" p2) [a] [] q] [] pos) (mo.bind fun h => mFs iSortSet [h]) :=
  PE_imp (pe_sortSetH hc hg hm hg2 hm2 ha na) fun σ H Q q => by
  obtain ⟨F, g, S, q⟩ := q
  refine ⟨F, g, S, Pst_bind Stp.refl q fun h v F1 H1 g1 S1 P1 P01 r1 q1 => ?_⟩
  obtain ⟨F4, ds, z, sb, r, hz, k⟩ := fsN_ok S1 P01 (.cons r1 .nil) q1
  obtain ⟨d, rfl⟩ := one_arg (f := iSortSet) hz rfl fun a b r => by cases a <;> rfl
  obtain ⟨w, ew, r0⟩ := rovs1 r
  cases ew
  cases d with
  | lst xs =>
    simp only [iSortSet] at hz
    cases o : intsOf xs with
    | none => rw [o] at hz; cases hz
    | some ns =>
      rw [o] at hz
      have hz : (if ns.length < 64 then some (D.lst ((sdL ns).map .int)) else none) = some z := hz
      by_cases c : ns.length < 64
      · rw [if_pos c] at hz; cases hz
        obtain ⟨l, vs, rfl, k1, k2⟩ := r0.lst sb
        rw [intsOf_ok o] at k2
        refine ⟨l, ns, rfl, .inl (.inl (by rw [← k2.ints]; exact k1)), c, fun p np => ?_⟩
        obtain ⟨A', c', n'⟩ := new_lst (X := X) sb np (reps_ints (K := X.K) (F := F4) (sdL ns))
        exact k p F4 _ A' c' n'
      · rw [if_neg c] at hz; cases hz
  | _ => cases hz
end
section
variable {X : Cx} {W : WX} {pos : Pos} {tg : Expr}
def SIZ (X : Cx) (W : WX) (l : Option Nat) (tg iter : Expr) (m : M (List D)) : Prop := PIZ X tg iter (tG X.K W (relI X.K l) m)
theorem PIZ_imp {iter : Expr} {t t' : TI} (h : PIZ X tg iter t) (k : ∀ σ H Q, t' σ H Q → t σ H Q) : PIZ X tg iter t' := ⟨fun pins s σ H R I q => h.run pins s σ H R I (k σ H R q)⟩
def mItT (m : M D) : M (List D) := m.bind fun d => fun g => match d with
  | .tup ds => some (.ok ds g)
  | _ => none
theorem siz_tup {e : Expr} {m : M D} (he : SE X W e m) : SIZ X W none tg e (mItT m) := PIZ_imp (pi_tupZ he) fun σ H R q => by
  obtain ⟨F, g, S, q⟩ := q
  refine ⟨F, g, S, Pst_bind Stp.refl q fun d v F1 H1 g1 S1 P1 P01 r1 q1 => ?_⟩
  cases d with
  | tup ds =>
    have r1 : Rep X.K F1 v (.tup ds) := r1
    cases r1 with
    | @tup a vs _ e1 r2 =>
      refine ⟨a, rfl, ⟨vs, S1.sub.tup e1⟩, q1 _ F1 H1 S1 P01 ⟨fun _ => True, ?_, trivial, fun _ _ _ _ _ => trivial, fun i d h => nomatch h⟩⟩
      exact items_tup e1 r2
  | _ => exact q1.elim
theorem sn_lcH {elt iter : Expr} {ifs : List Expr} {scope : Scope} {own : List (Str × Nat)} {l : Option Nat} {it : M (List D)} {T : Tgt} {c : M Bool} {ee : M D} (hc : L2H.HotC X) (hN : X.N.Nodup) (hi : SIZ X W l tg iter it) (ok : BlkOk X.N X.env.scope scope own)
    (hg : ∀ (s : Shared) (H : Hp) (C : Addr) (cl : List (Str × Addr)) (fp : List Addr), SG (X.blk s H scope (compEnvC scope cl C X.env) fp) tg (own.map (·.2)) T)
    (ht : ∀ (s : Shared) (H : Hp) (C : Addr) (cl : List (Str × Addr)) (fp : List Addr), STs (X.blk s H scope (compEnvC scope cl C X.env) fp) ifs c)
    (he : ∀ (s : Shared) (H : Hp) (C : Addr) (cl : List (Str × Addr)) (fp : List Addr), SE (X.blk s H scope (compEnvC scope cl C X.env) fp) W0 elt ee) (hs : ∀ x, foldedSetIterable iter X.env x = pure x := by intro _; rfl) :
    SN X W (.ListComp elt [⟨tg, iter, ifs, 0⟩] scope pos) (mLc l it (own.map (·.2)) T c ee) :=
  PE_imp (pe_lcZ (g := tTg X.K (own.map fun p : Str × Nat => p.2) T) (tt := tG X.K W0 relB c) (te := tG X.K W0 (relE X.K) ee) hc hN hi ok hg ht he hs) fun σ H Q q => lc_reads q
end
end Cq

set_option Elab.async false
set_option linter.all false
set_option maxRecDepth 100000
namespace Cq
open PySem PySem.Spec PyProof.Rows L2
section
variable {X : Cx} {W : WX} {pos : Pos} {σ : L2.St} {F H F0 H0 : Hp} {g g0 : Gm} {Q : VK} {a b : Expr} {ma mb : M Hd}
def rN2 (K : Frag) (f : D → D → Option D) : R2 := fun x y H Q => ∃ F d e z, Sub F H ∧ RoV K F H x d ∧ RoV K F H y e ∧ f d e = some z ∧ ∀ a F' H', Al F H F' H' → Cell K F' H' a z → (∀ x, Foot H' a x → H x = none ∧ F' x = none) → Q (.ref a) H'
theorem f2N_ok {f : D → D → Option D} {h h' : Hd} {x y : V} (S : Sta X.K F g σ H) (P : Stp F0 H0 g0 σ F H g σ) (r : HdR X.K F σ h x) (r' : HdR X.K F σ h' y) (q : Pst X.K W σ (relN X.K) F0 H0 g0 Q (mF2 f h h' g)) : rN2 X.K f x y H Q := by
  unfold mF2 at q
  cases e : h.rd g with
  | none => rw [e] at q; exact q.elim
  | some d => cases e' : h'.rd g with
    | none => rw [e, e'] at q; exact q.elim
    | some d' =>
      simp only [e, e', mAns] at q
      cases hz : f d d' with
      | none => simp only [hz] at q; exact q.elim
      | some z =>
        simp only [hz] at q
        refine ⟨F, d, d', z, S.sub, r.rov S e, r'.rov S e', hz, fun a F' H' A c n => q _ F' H' (S.al A).1 (P.trans (S.al A).2) ⟨a, rfl, c, fun x f => ⟨(n x f).2, fun o => ?_, ?_⟩⟩⟩
        · obtain ⟨u, hu⟩ := S.own_at (S.own_al A.hg o)
          rw [(n x f).1] at hu; cases hu
        · exact Classical.byContradiction fun h0 => P.st x h0 (n x f).1
theorem tOpN_ok {f : D → D → Option D} {Q : VK} (q : tG X.K W (relN X.K) (mOp2 f ma mb) σ H Q) : tOp (rN2 X.K f) (tG X.K W (relO X.K) ma) (tG X.K W (relO X.K) mb) σ H Q := by
  obtain ⟨F, g, S, q⟩ := q
  refine ⟨F, g, S, Pst_bind Stp.refl q fun ha v F1 H1 g1 S1 P1 P01 r1 q1 => ⟨F1, g1, S1, Pst_bind P01 q1 fun hb w F2 H2 g2 S2 P2 P02 r2 q2 => ?_⟩⟩
  exact f2N_ok S2 P02 (HdR.mono P2.fg r1) r2 q2
def dCatL : D → D → Option D
  | .lst a, .lst b => if a.length + b.length ≤ 1000000 then some (.lst (a ++ b)) else none
  | _, _ => none
theorem on_cat : OpR X (binaryOp .Add) (rN2 X.K dCatL) := by
  refine opD op_cat fun x y H Q ⟨F, d, e, z, s, r1, r2, h, q⟩ => ?_
  cases d <;> cases e <;> simp only [dCatL] at h <;> first | cases h | skip
  rename_i a b
  by_cases l : a.length + b.length ≤ 1000000
  · rw [if_pos l] at h; cases h
    obtain ⟨p, vs, rfl, k1, k2⟩ := r1.lst s
    obtain ⟨p', vs', rfl, k1', k2'⟩ := r2.lst s
    refine ⟨p, p', vs, vs', rfl, rfl, k1, k1', by rw [k2.length, k2'.length]; exact line_le l, fun t nt => ?_⟩
    obtain ⟨A', c', n'⟩ := new_lst (X := X) s nt (k2.append k2')
    exact q _ _ _ A' c' n'
  · rw [if_neg l] at h; cases h
end
end Cq

set_option Elab.async false
set_option linter.all false
set_option maxRecDepth 100000
namespace Cq
open PySem PySem.Spec PyProof.Rows L2
section
variable {X : Cx} {W : WX} {pos p apos : Pos} {σ : L2.St} {F H F0 H0 : Hp} {g g0 : Gm} {a b e o : Expr} {es : List Expr} {ta tb : TE} {ma mb : M Hd} {fa : Addr}
theorem cmpBack_of {pins : List (Addr × Obj)} {Q : VK} {v : Value} {s' : Shared} (h : EP X pins σ Q v s') : PySem.W.CmpBack (EP X pins σ Q) v s' := by
  have h0 := h
  obtain ⟨x, H, I, r, q⟩ := h
  cases x with
  | non => cases r; exact h0
  | bl b => cases r; exact h0
  | int i => obtain ⟨t, rfl⟩ := r; exact h0
  | str i => obtain ⟨t, rfl⟩ := r; exact h0
  | byt i => obtain ⟨t, rfl⟩ := r; exact h0
  | flt i => obtain ⟨t, rfl⟩ := r; exact h0
  | ref a => cases r; exact h0
  | ty n => cases r; exact h0
theorem codB {sp : Sp} (C : CodR X W fa sp) {pins : List (Addr × Obj)} {s : Shared} {us : List Value} {vs : List V} {Q : VK} (I : Inv X pins σ H s) (r : Vals vs us) (q : sp vs H Q (WE W σ)) :
    wpAny (model X.prog X.w) X.A (call (.ref fa) us) (PySem.W.CmpBack (EP X pins σ Q)) X.xe s := by
  refine wpAny_call (codeAny_mono (C pins s σ H us vs Q I r q) fun r s' hq => ?_)
  cases r with
  | error e => exact hq
  | ok fl =>
    cases fl with
    | ret u => exact cmpBack_of hq
    | next => exact hq
    | brk => exact hq
    | cont => exact hq
end
end Cq

set_option Elab.async false
set_option linter.all false
set_option maxRecDepth 100000
namespace Cq
open PySem PySem.Spec PyProof.Rows L2
section
variable {X : Cx} {W : WX} {pos p apos : Pos} {σ : L2.St} {F H F0 H0 : Hp} {g g0 : Gm} {a b e o : Expr} {es : List Expr} {ta tb te : TE} {tA : TA} {ma mb me : M Hd} {fa : Addr} {k : Nat}
theorem codB1 {sp : Sp} (C : FnR X.prog X.w X.K X.mg X.base (L2.CX X.prog X.w) k fa sp) (hr : Room (k + 1) X.A) (tk : Takes X W) {pins : List (Addr × Obj)} {s : Shared} {us : List Value} {vs : List V} {Q : VK} (I : Inv X pins σ H s) (r : Vals vs us) (q : sp vs H Q (WE W σ)) :
    wpAny (model X.prog X.w) X.A.in1 (call (.ref fa) us) (EP X pins σ Q) X.xe s := by
  refine wpAny_call (codeAny_mono (C X.A.in1 X.stack s H us vs Q (WE W σ) hr.in1 I.env0.in1 r q) fun r s' hq => ?_)
  cases r with
  | error e => exact passAt tk σ pins H s e s' I hq
  | ok fl =>
    cases fl with
    | ret u => exact I.after hq
    | next => exact False.elim hq
    | brk => exact False.elim hq
    | cont => exact False.elim hq
def In1 (K : Frag) (c : Nat) (x : V) (H : Hp) : Prop := ∃ a dx fs, x = .ref a ∧ H a = some (.ins (ca K c) dx fs)
end
end Cq

set_option Elab.async false
set_option linter.all false
set_option maxRecDepth 100000
namespace Cq
open PySem PySem.Spec PyProof.Rows L2
section
variable {X : Cx} {W : WX} {pos p apos : Pos} {σ : L2.St} {F H F0 H0 : Hp} {g g0 : Gm} {a b e o : Expr} {es : List Expr} {ta tb te : TE} {tA : TA} {ma mb me : M Hd} {fa : Addr} {k : Nat}
def dStrChk : D → M D
  | .str z => M.ret (.str z)
  | _ => M.fail
end
end Cq

set_option Elab.async false
set_option linter.all false
set_option maxRecDepth 100000
set_option maxHeartbeats 1000000
namespace PySem.W
open PySem PySem.Builtin PySem.Builtin.List
section
variable {prog : Program} {w : World} {A : Around} {E : Value → Shared → Prop} {s : Shared} {K : Frag} {x C f : Addr} {ox : Obj} {od : Option Obj} {name : Str}
/-- where the thing in a tuple is asked for its repr -/
abbrev AT (A : Around) (a : Addr) : Around := A.in1.under (.builtin "tuple.__repr__" ⟨[.ref a], []⟩)
end
end PySem.W

set_option Elab.async false
set_option linter.all false
set_option maxRecDepth 100000
set_option maxHeartbeats 1000000
set_option Elab.async false
set_option linter.all false
set_option maxRecDepth 100000
set_option maxHeartbeats 2000000
namespace Cq
open PySem PySem.Spec PyProof.Rows L2 HotX
def FnRH (P : Program) (w : World) (K : Frag) (mg : Str → Option Value) (base : Heap) (CX : CXT) (k : Nat) (f : Addr) (sp : Sp) : Prop :=
  ∀ (A : Around) (outer : List PySem.Env) (s : Shared) (H : Hp) (us : List Value) (vs : List V) (Q : VK) (E : XK) (p : Addr × Obj), L2H.RoomH k A → L2H.Hot1 A p → L2H.PinOk outer H s p → Env0 P w K mg base A outer s H → Vals vs us → sp vs H Q E →
    codeAny (model P w) A (.call (.ref f) ⟨us, []⟩) (CR CX outer P w H s Q E) s
theorem FnRH.mono {P : Program} {w : World} {K : Frag} {mg : Str → Option Value} {base : Heap} {CX : CXT} {j k : Nat} {f : Addr} {sp : Sp} (F : FnRH P w K mg base CX j f sp) (h : j ≤ k) : FnRH P w K mg base CX k f sp :=
  fun A outer s H us vs Q E p hr => F A outer s H us vs Q E p (hr.mono h)
section
variable {P : Program} {w : World} {K : Frag} {mg : Str → Option Value} {base : Heap} {x qual : Str} {params : Arguments} {body : List Stmt} {scope : Scope} {f : Addr} {fd : FuncData}
theorem fnrH {k : Nat} {N ps : List Str} {ms : List Md} {m : M Fl} (F : FunD K x qual params body scope [] [] f fd) (S : FnScope N ps scope) (hl : ms.length = ps.length)
    (hb : ∀ (kV doc pm : Value) (an : Option Addr) (cdv ct : Value) (us : List Value), us.length = ps.length → bindArgs (PySem.W.fnOf x qual params body scope .none kV doc pm an cdv ct) ⟨us, []⟩ = pure (ps.zip us))
    (hbody : ∀ (cdv : Value) (A : Around) (outer : List PySem.Env) (s : Shared) (H : Hp) (E : XK) (p : Addr × Obj), L2H.RoomH k (A.deeper (envOfC qual scope s.heap.objs.size f cdv)) → L2H.HotC (L2H.cxH (L2.CX P w) P w K mg base N qual scope f cdv A outer s H E p) →
      Takes (L2H.cxH (L2.CX P w) P w K mg base N qual scope f cdv A outer s H E p) (wE E) →
      SSs (L2H.cxH (L2.CX P w) P w K mg base N qual scope f cdv A outer s H E p) (wE E) body m) :
    FnRH P w K mg base (L2.CX P w) (k + 1) f (spF K ms (runDef ms N.length m)) := by
  have len : ∀ vs H Q E, spF K ms (runDef ms N.length m) vs H Q E → vs.length = ps.length := fun vs H Q E ⟨_, _, _, l, _⟩ => l.trans hl
  have bnd := F.bindsN hb
  obtain ⟨oc, od, dV, kV, doc, pm, an, cdv, ct, osl, rfl, lk, hcd, _, _⟩ := F.ex
  have G := L2H.fn_ofH (P := P) (w := w) (mg := mg) (base := base) (CX := L2.CX P w) (k := k) (sp := spF K ms (runDef ms N.length m)) lk hcd S len fun A outer s H vs Q E p hot hr h =>
    ⟨_, hbody cdv A outer s H E p hr ⟨p, hot, by show p ∈ [p]; simp⟩ (takes_of rfl rfl rfl rfl), by
      have e : start N vs = vs.map some ++ List.replicate (N.length - ms.length) none := by
        unfold L2.start
        rw [len _ _ _ _ h, hl]
      rw [e]
      exact def_reads (fun _ _ _ z => z) h⟩
  intro A outer s H us vs Q E p hr hot hpin e0 r h
  have KX : K.In s.heap := e0.mod.kin.keeps fun b o e => (e0.bs b o e).1
  have hul : us.length = ps.length := by rw [← r.length]; exact len _ _ _ _ h
  have hbd := bnd s us KX (by rw [List.append_nil]; exact hul)
  rw [List.append_nil] at hbd
  exact G.run A outer s H ⟨us, []⟩ us vs Q E p hr hot hpin e0 hbd r h
end
section
variable {X : Cx} {W : WX} {pos p : Pos} {σ : L2.St} {k : Nat} {fa : Addr} {a : Expr} {es : List Expr} {tA : TA}
theorem codBH {sp : Sp} {A' : Around} {f : Addr} (C : FnRH X.prog X.w X.K X.mg X.base (L2.CX X.prog X.w) k f sp) (hr : L2H.RoomH k A') (hc : L2H.HotC X) (hf : A'.frames = X.A.frames) (hh : A'.handled = X.A.handled) (tk : Takes X W) {pins : List (Addr × Obj)} {s : Shared} {H : Hp} {us : List Value} {vs : List V} {Q : VK} (I : Inv X pins σ H s) (r : Vals vs us) (q : sp vs H Q (WE W σ)) :
    wpAny (model X.prog X.w) A' (call (.ref f) us) (EP X pins σ Q) X.xe s := by
  obtain ⟨p, ⟨hot1, hot2⟩, hp⟩ := hc
  have e0 := I.env0
  have e1 : Env0 X.prog X.w X.K X.mg X.base A' X.stack s H := ⟨hf.trans e0.frames, e0.mod, e0.bs, e0.bsz, e0.funs, e0.frf, e0.hok, e0.bare⟩
  have P1 := I.pin p (List.mem_append_left _ hp)
  have hpin : L2H.PinOk X.stack H s p := ⟨P1.1, P1.2.1, fun hm => (List.mem_cons.mp (I.stkSub p.1 hm)).elim P1.2.2.1 P1.2.2.2.1, P1.2.2.2.2⟩
  refine wpAny_call (codeAny_mono (C A' X.stack s H us vs Q (WE W σ) p hr ⟨hh.trans hot1, hot2⟩ hpin e1 r q) fun r s' hq => ?_)
  cases r with
  | error e => exact passAt tk σ pins H s e s' I hq
  | ok fl =>
    cases fl with
    | ret u => exact I.after hq
    | next => exact False.elim hq
    | brk => exact False.elim hq
    | cont => exact False.elim hq
theorem calR_fnH {f : Addr} {sp : Sp} (F : FnRH X.prog X.w X.K X.mg X.base (L2.CX X.prog X.w) k f sp) (hr : L2H.RoomH k X.A) (hc : L2H.HotC X) (tk : Takes X W) : CalR X W (.ref f) sp :=
  fun pins s σ H us vs Q I r h => codBH F hr hc rfl rfl tk I r h
theorem in1_roomH {A : Around} (hr : L2H.RoomH (k + 1) A) : L2H.RoomH k A.in1 := ⟨by have := hr.dp; show A.depth + 3 * k + 5 < _; omega, by have := hr.un; show A.units + 1 + 16 * k + 200 < _; omega⟩
theorem run_reprIH {c : Nat} {sp : Sp} {q dx : Addr} {fs : List (Str × V)} (hm : Meth X.K (ca X.K c) "__repr__" fa) (C : FnRH X.prog X.w X.K X.mg X.base (L2.CX X.prog X.w) k fa sp) (hr : L2H.RoomH (k + 1) X.A) (hc : L2H.HotC X) (tk : Takes X W)
    {pins : List (Addr × Obj)} {s : Shared} {H : Hp} {Q : VK} (I : Inv X pins σ H s) (hp : H q = some (.ins (ca X.K c) dx fs)) (h : sp [.ref q] H (fun v H2 => ∃ z : Str, v = .str z ∧ Q (.str z) H2) (WE W σ)) :
    wpAny (model X.prog X.w) X.A (call (.builtin "repr") [.ref q]) (EP X pins σ Q) X.xe s := by
  obtain ⟨mA, J, _⟩ := ins_get I.hok hp
  obtain ⟨od, J, _⟩ := J.look
  obtain ⟨m, hF⟩ := I.fr
  have un := hr.un
  refine PySem.W.repr_K (show X.A.units + 1 < cLine by omega) hF I.ok.mod.kin J hm.at_ hm.fn ?_
  refine wpAny_mono (codBH C (in1_roomH hr) hc rfl rfl tk I (vs := [.ref q]) (.cons rfl .nil) h) (fun v s' z => ?_) fun _ _ z => z
  obtain ⟨y, H2, I2, r2, n, rfl, q2⟩ := z
  obtain ⟨t, rfl⟩ := r2
  exact ⟨.str n, H2, I2, ⟨_, rfl⟩, q2⟩
end
end Cq

set_option Elab.async false
set_option linter.all false
set_option maxRecDepth 100000
set_option maxHeartbeats 2000000
namespace Cq
open PySem PySem.Spec PyProof.Rows L2
section
variable {P : Program} {w : World} {K : Frag} {mg : Str → Option Value} {base : Heap} {x qual : Str} {params : Arguments} {body : List Stmt} {scope : Scope} {f : Addr} {fd : FuncData}
theorem fnrN {k : Nat} {N ps : List Str} {ms : List Md} {m : M Fl} (F : FunD K x qual params body scope [] [] f fd) (S : FnScope N ps scope) (hl : ms.length = ps.length)
    (hb : ∀ (kV doc pm : Value) (an : Option Addr) (cdv ct : Value) (us : List Value), us.length = ps.length → bindArgs (PySem.W.fnOf x qual params body scope .none kV doc pm an cdv ct) ⟨us, []⟩ = pure (ps.zip us))
    (hbody : ∀ (cdv : Value) (A : Around) (outer : List PySem.Env) (s : Shared) (H : Hp) (E : XK), Room k (A.deeper (envOfC qual scope s.heap.objs.size f cdv)) → L2N.Takes (cxOf (L2N.CX P w) P w K mg base N qual scope f cdv A outer s H E) (wE E) →
      PassesOwn (model P w) (A.deeper (envOfC qual scope s.heap.objs.size f cdv)) (envOfC qual scope s.heap.objs.size f cdv) (cxOf (L2N.CX P w) P w K mg base N qual scope f cdv A outer s H E).xe →
      SSs (cxOf (L2N.CX P w) P w K mg base N qual scope f cdv A outer s H E) (wE E) body m) :
    FnR P w K mg base (L2N.CX P w) (k + 1) f (spF K ms (runDef ms N.length m)) := by
  have len : ∀ vs H Q E, spF K ms (runDef ms N.length m) vs H Q E → vs.length = ps.length := fun vs H Q E ⟨_, _, _, l, _⟩ => l.trans hl
  have G : FnOk P w K mg base (L2N.CX P w) (k + 1) f fd ps (spF K ms (runDef ms N.length m)) := by
    refine F.ok S len fun cdv A outer s H vs Q E hr h => ⟨_, hbody cdv A outer s H E hr (L2N.takes_of rfl rfl rfl rfl) (passes_of rfl), ?_⟩
    have e : start N vs = vs.map some ++ List.replicate (N.length - ms.length) none := by
      unfold L2.start
      rw [len _ _ _ _ h, hl]
    rw [e]
    exact def_reads (fun _ _ _ z => z) h
  exact (G.raw (F.bindsN hb) .nil).imp fun vs H Q E h => by rw [List.append_nil]; exact h
end
section
variable {X : Cx} {W : WX} {pos p p2 : Pos} {pos' : Pos} {σ : L2.St} {x : Str}
theorem ss_raiseN {m : Str} {j : Nat} (c : Nat) (hc : X.calm = true) (tk : L2N.Takes X W) (e : cname c = x) (f : (He.Fa.exc x).ok X.K = true) (gC : X.mg x = some (.ref (He.ga X.K x))) (hg : Gl X x)
    (hdb : (x == ("__debug__" : Str)) = false := by decide) : SS X W (.Raise (some (.Call (.Name x p) [.Constant (.str m) j p2] [] pos)) none pos') (mRaise c) := by
  subst e
  obtain ⟨h1, h2, h3, h4⟩ := He.exc_ok f
  refine PS_imp (L2N.ps_raise hc tk (L2N.pmk_own PySem.F.excBase_ValueError h1 gC h2 (raises_own h3 h4) hg hdb)) fun E σ H q => ?_
  obtain ⟨F, g, S, q⟩ := q
  exact q F σ H S Stp.refl
/-- try: body except C: suite, where the suite knows that the handled exception carries no context -/
theorem ss_tryN {cs : List Nat} {body suite : List Stmt} {b₀ : Stmt} {np : Pos} {c : Nat} {m mh : M Fl} (hst : X.stack = X.env :: X.outer) (hf : X.env.frame = some X.env.locals) (hcn : Names X x (exv X.K c)) (hpa : ∀ hd : Option Value, PassesOwnAt (model X.prog X.w) (X.A.mark hd) X.A X.env X.xe) (tk : L2.Takes X W)
    (hx : ∀ c' ∈ cs, PySem.W.exmOne X.K (exv X.K c') (exv X.K c) = some (subE c' c))
    (hb : ∀ (W' : WX) (pn : List (Addr × Obj)) (xe : Value → Shared → Prop), L2N.Takes (X.tr pn xe) W' → PassesOwn (model X.prog X.w) X.A X.env xe → SSs (X.tr pn xe) W' body m)
    (hsu : ∀ (a : Addr) (pn : List (Addr × Obj)), L2H.HotC (L2H.suiteX X a pn) → L2.Takes (L2H.suiteX X a pn) W → SSs (L2H.suiteX X a pn) W0 (b₀ :: suite) mh) :
    SS X W (.Try body [.ExceptHandler (some (.Name x np)) none (b₀ :: suite) pos'] [] [] pos) (mTry cs m [(c, mh)]) :=
  PS_imp (L2H.ps_try_onlyX (tb := fun W' => tS X.K W' m) (ts := fun _ _ _ => tS X.K W0 mh) (Wout := W) hst hf hcn hpa tk (fun W' pn xe t _ p => hb W' pn xe t p) (fun a oe cls d pn _ _ tk2 hot => hsu a ((a, oe) :: pn) hot tk2)) fun E σ H q => by
  obtain ⟨F, g, S, q⟩ := q
  refine ⟨F, g, S, ?_⟩
  unfold mTry at q
  cases o : m g with
  | none => rw [o] at q; exact q
  | some r => cases r with
    | ok f g1 => rw [o] at q; cases f <;> exact q
    | ex c1 g1 =>
      rw [o] at q
      have q : PstS X.K W F H g σ E (if cs.contains c1 = true then mHand c1 [(c, mh)] g1 else none) := q
      by_cases hc : cs.contains c1 = true
      · rw [if_pos hc] at q
        intro F' σ' H' S' P'
        have z := hand_ok (X := X) (hs := [(c, mh)]) (fun h hh => by
          rw [List.mem_singleton.mp hh]
          exact hx c1 (by simpa using hc)) S' (PstS_from P' q)
        exact z
      · rw [if_neg hc] at q; exact q.elim
end
end Cq

set_option Elab.async false
set_option linter.all false
set_option maxRecDepth 100000
set_option Elab.async false
set_option linter.all false
set_option maxRecDepth 100000
namespace Cq
open PySem PySem.Spec PyProof.Rows L2
/-- behind this expression a token is out -/
def PEk (X : Cx) (e : Expr) (t : TE) : Prop := ∀ (pins : List (Addr × Obj)) (s : Shared) (σ : L2.St) (H : Hp) (Q : VK), Inv X pins σ H s → t σ H Q → wpAny (model X.prog X.w) X.A (eval e X.env) (fun v s1 => 1 ≤ s1.toks ∧ EP X pins σ Q v s1) X.xe s
section
variable {X : Cx} {W : WX} {pos p p' c0 c1 apos : Pos} {σ : L2.St} {F H F0 H0 : Hp} {g g0 : Gm} {a b e o : Expr} {es : List Expr} {te ta : TE} {tA : TA} {ma mo : M Hd} {mr : M (List Hd)} {j k : Nat} {y z : Str}
theorem pek_opC {op : Operator} {r : R2} (ho : OpR X (binaryOp op) r) (ha : PE X a ta) : PEk X (.BinOp a op (.Constant (.str z) j p) pos) (tOp r ta (tC (.str z))) := by
  intro pins s σ H Q I h
  refine wpAny_BinOp (thn (ha.run pins s σ H _ I h) fun v s1 q => ?_)
  obtain ⟨x, H1, I1, r1, q1⟩ := q
  refine Calls.Constant_str ?_
  refine wpAny_mono (PySem.wpAny_toks (ho pins { s1 with toks := s1.toks + 1 } σ H1 x (.str z) v (.str z s1.toks) Q (I1.tok _) r1 ⟨_, rfl⟩ q1)) (fun u s2 q => ?_) fun _ _ z => z.2
  have hk : s1.toks + 1 ≤ s2.toks := q.1
  exact ⟨by omega, q.2⟩
def SAT (X : Cx) (W : WX) (es : List Expr) (m : M (List Hd)) : Prop := PAT X es (tG X.K W (relA X.K) m)
def SOT (X : Cx) (W : WX) (e : Expr) (m : M Hd) : Prop := PET X e (tG X.K W (relO X.K) m)
theorem so_T (h : SO X W e ma) : SOT X W e ma := CwR.PET.of h
theorem sa_T (h : SA X W es mr) : SAT X W es mr := fun pos pins s σ H Q _ I q => h.run pos pins s σ H Q I q
theorem sat_cons (ha : SOT X W a ma) (hr : SAT X W es mr) (hs : starEach (a :: es) X.env = (false, eval a X.env) :: starEach es X.env := by rfl) : SAT X W (a :: es) (mCons ma mr) := by
  intro pos pins s σ H Q h0 I q
  refine pat_cons ha hr hs pos pins s σ H Q h0 I ?_
  obtain ⟨F, g, S, q⟩ := q
  exact ⟨F, g, S, Pst_bind Stp.refl q fun h v F1 H1 g1 S1 P1 P01 r1 q1 => ⟨F1, g1, S1, Pst_bind P01 q1 fun hs vs F2 H2 g2 S2 P2 P02 r2 q2 => q2 _ F2 H2 S2 P02 (.cons (HdR.mono P2.fg r1) r2)⟩⟩
theorem tG_va {m : M D} {Q : VK} (q : tG X.K W (relO X.K) (mVa m) σ H Q) : tG X.K W (relE X.K) m σ H Q := by
  obtain ⟨F, g, S, q⟩ := q
  exact ⟨F, g, S, Pst_bind Stp.refl q fun d v F1 H1 g1 S1 P1 _ r1 z => z v F1 H1 S1 P1 r1⟩
theorem tG_cst {Q : VK} (q : tG X.K W (relO X.K) (mVa (M.ret (.str z))) σ H Q) : Q (.str z) H := by
  obtain ⟨F, g, S, q⟩ := q
  have q : Pst X.K W σ (relO X.K) F H g Q (some (.ok (.va (.str z)) g)) := q
  exact q (.str z) F H S Stp.refl (Rep.str z)
def dRepl (y z : Str) : D → Option D
  | .str x => if x.length + (x.length + 1) * z.length ≤ 16777216 then some (.str (Txt.replace x y z)) else none
  | _ => none
theorem sot_repl (ho : SO X W o mo) (hyz : (y == z) = false := by decide)
    (hst : starEach [.Constant (.str y) j c0, .Constant (.str z) k c1] X.env = [(false, eval (.Constant (.str y) j c0) X.env), (false, eval (.Constant (.str z) k c1) X.env)] := by rfl)
    (hbase : attributeBase o "replace" X.env (eval o X.env) = eval o X.env := by rfl) (hline : (apos.endLine == pos.line) = true := by rfl) :
    SOT X W (.Call (.Attribute o "replace" apos) [.Constant (.str y) j c0, .Constant (.str z) k c1] [] pos) (mVa (mOp1 (dRepl y z) mo)) := by
  intro pins s σ H Q h0 I q
  refine CwR.pet_replC ho hyz hst hbase hline pins s σ H Q h0 I ?_
  obtain ⟨F, g, S, q⟩ := tG_va q
  refine ⟨F, g, S, Pst_bind Stp.refl q fun h v F1 H1 g1 S1 P1 P01 r1 q1 => ?_⟩
  obtain ⟨F4, d, w, sb, r, hz, k⟩ := f1_ok S1 P01 r1 q1
  cases d with
  | str x =>
    simp only [dRepl] at hz
    by_cases c : x.length + (x.length + 1) * z.length ≤ 16777216
    · rw [if_pos c] at hz; cases hz; cases r.str
      exact ⟨x, rfl, c, k _ F4 H1 (Al.refl sb) (.str _)⟩
    · rw [if_neg c] at hz; cases hz
  | _ => cases hz
end
end Cq

set_option Elab.async false
set_option linter.all false
set_option maxRecDepth 100000
namespace Cq
open PySem PySem.Spec PyProof.Rows L2
def PAk (X : Cx) (es : List Expr) (t : TA) : Prop := ∀ (pos : Pos) (pins : List (Addr × Obj)) (s : Shared) (σ : L2.St) (H : Hp) (Q : List V → Hp → Prop), Inv X pins σ H s → t σ H Q → wpAny (model X.prog X.w) X.A (spliced (backTo pos (starEach es X.env))) (fun us s1 => 1 ≤ s1.toks ∧ AP X pins σ Q us s1) X.xe s
def PSk (X : Cx) (st : Stmt) (t : TS) : Prop := ∀ (pins : List (Addr × Obj)) (s : Shared) (σ : L2.St) (H : Hp) (D : Ends), Inv X pins σ H s → t D σ H → wpAny (model X.prog X.w) X.A (exec st X.env) (fun f s1 => 1 ≤ s1.toks ∧ SP X pins D f s1) X.xe s
section
variable {X : Cx} {W : WX} {pos p p' c0 c1 apos cpos : Pos} {σ : L2.St} {F H F0 H0 : Hp} {g g0 : Gm} {a b e o : Expr} {es : List Expr} {te ta tb : TE} {tA : TA} {ma mb mo : M Hd} {mr : M (List Hd)} {j k : Nat} {x y z : Str}
theorem PEk_imp {t t' : TE} (h : PEk X e t) (k : ∀ σ H Q, t' σ H Q → t σ H Q) : PEk X e t' := fun pins s σ H Q I q => h pins s σ H Q I (k σ H Q q)
theorem PET_imp {t t' : TE} (h : PET X e t) (k : ∀ σ H Q, t' σ H Q → t σ H Q) : PET X e t' := fun pins s σ H Q h0 I q => h pins s σ H Q h0 I (k σ H Q q)
theorem PAk_imp {t t' : TA} (h : PAk X es t) (k : ∀ σ H Q, t' σ H Q → t σ H Q) : PAk X es t' := fun pos pins s σ H Q I q => h pos pins s σ H Q I (k σ H Q q)
theorem pek_opL {op : Operator} {r : R2} (ho : OpR X (binaryOp op) r) (ha : PEk X a ta) (hb : PE X b tb) : PEk X (.BinOp a op b pos) (tOp r ta tb) := by
  intro pins s σ H Q I h
  refine wpAny_BinOp (thn (ha pins s σ H _ I h) fun v s1 q => ?_)
  obtain ⟨h0, x, H1, I1, r1, q1⟩ := q
  refine wpAny_mono (PySem.wpAny_toks_of h0 (thn (hb.run pins s1 σ H1 _ I1 q1) fun u s2 ⟨y, H2, I2, r2, q2⟩ => ho pins s2 σ H2 x y v u Q I2 r1 r2 q2)) (fun u s2 q => ?_) fun _ _ z => z.2
  exact wpAny_mono (PySem.wpAny_toks_of q.1 q.2) (fun _ _ z => z) fun _ _ z => z.2
theorem pek_opR {op : Operator} {r : R2} (ho : OpR X (binaryOp op) r) (ha : PE X a ta) (hb : PEk X b tb) : PEk X (.BinOp a op b pos) (tOp r ta tb) := by
  intro pins s σ H Q I h
  refine wpAny_BinOp (thn (ha.run pins s σ H _ I h) fun v s1 ⟨x, H1, I1, r1, q1⟩ => ?_)
  refine thn (hb pins s1 σ H1 _ I1 q1) fun u s2 q => ?_
  obtain ⟨h0, y, H2, I2, r2, q2⟩ := q
  exact wpAny_mono (PySem.wpAny_toks_of h0 (ho pins s2 σ H2 x y v u Q I2 r1 r2 q2)) (fun _ _ z => z) fun _ _ z => z.2
theorem pak_head (ha : PEk X e te) (hr : PA X es tA) (hs : starEach (e :: es) X.env = (false, eval e X.env) :: starEach es X.env := by rfl) : PAk X (e :: es) (tCons te tA) := by
  intro pos pins s σ H Q I h
  rw [hs]
  show wpAny _ _ (spliced ((false, eval e X.env) :: backTo pos (starEach es X.env))) _ _ s
  refine Calls.spliced_cons (thn (ha pins s σ H _ I h) fun u s1 q => ?_)
  obtain ⟨h0, x, H1, I1, r1, q1⟩ := q
  refine wpAny_mono (PySem.wpAny_toks_of h0 (hr.run pos pins s1 σ H1 _ I1 q1)) (fun us s2 q => ?_) fun _ _ z => z.2
  obtain ⟨h2, xs, H2, I2, r2, q2⟩ := q
  exact ⟨h2, x :: xs, H2, I2, .cons r1 r2, q2⟩
theorem pek_lst (h : PAk X es tA) : PEk X (.List es pos) (tLst tA) := by
  intro pins s σ H Q I hq
  refine wpAny_List_spliced (thn (h pos pins s σ H _ I hq) fun us s1 q => ?_)
  obtain ⟨h0, xs, H1, I1, r, z, q⟩ := q
  refine ⟨by rw [← r.length]; exact z, h0, ?_⟩
  have hf : H1 s1.heap.objs.size = none := I1.hok.fresh (Nat.le_refl _)
  refine ⟨.ref s1.heap.objs.size, upd H1 s1.heap.objs.size (.lst xs), I1.laid (t' := s1.toks) (fun b u e => Heap.get?_push_of_some _ e) (Nat.le_refl _) ?_, rfl, q _ hf⟩
  exact ⟨z, us, 0, r, Heap.get?_push_size _ rfl⟩
theorem psk_set {i : Nat} {x : Str} {pos' : Pos} (hN : X.N.Nodup) (hi : X.N[i]? = some x) (hx : Loc X.env.scope x) (he : PEk X e te) (hs : swapsWith e (some (.Name x pos')) pos.line X.env = pure false := by rfl) (hf : X.fn x = true ∨ X.env.scope.names.lookup x = some .local := by first | exact .inl rfl | exact .inr rfl | assumption) :
    PSk X (.Assign [.Name x pos'] e pos) (tAsg te (gName i)) := by
  intro pins s σ H D I h
  refine wpAny_Assign_Name (thn (he pins s σ H _ I h) fun v s1 q => ?_) hs
  obtain ⟨h0, y, H1, I1, r1, q1⟩ := q
  exact wpAny_mono (PySem.wpAny_toks_of h0 (store_ok (Q := fun _ s2 => SP X pins D .next s2) I1 hN hi hx r1 (fun s2 I2 => ⟨_, H1, I2, q1⟩) hf)) (fun _ _ z => z) fun _ _ z => z.2
theorem pss_consK {st : Stmt} {rest : List Stmt} {t u : TS} (h1 : PSk X st t) (h2 : PSsT X rest u) : PSs X (st :: rest) (tSeq t u) := by
  refine ⟨fun pins s σ H D I h => ?_⟩
  refine wpAny_execs_cons (thn (h1 pins s σ H { D with nx := u D } I h) fun f s1 q => ?_)
  obtain ⟨h0, q⟩ := q
  cases f with
  | next =>
    obtain ⟨σ', H', I', q⟩ := q
    exact h2 pins s1 σ' H' D h0 I' q
  | ret v => exact q
  | brk => exact q
  | cont => exact q
theorem pst_expr (he : PET X e te) (hs : swapsWith e none pos.line X.env = pure false := by rfl) : PST X (.Expr e pos) (tDrop te) := by
  intro pins s σ H D h0 I h
  exact wpAny_Expr_any (thn (he pins s σ H _ h0 I h) fun v s1 ⟨x, H1, I1, r1, q1⟩ => ⟨σ, H1, I1, q1⟩) I.quiet hs
theorem pet_bm {T bid : String} {name : Str} {r : V → List V → Hp → VK → Prop} {to : TE} (pa : PlainAttrs T) (slot : Slot T name bid) (hty : typeOf (.builtin bid) = pure (.type "method_descriptor")) (hm : MtR X bid r) (ho : PE X o to) (ha : PAT X (e :: es) tA)
    (hbase : attributeBase o name X.env (eval o X.env) = eval o X.env := by rfl)
    (hfew : ((backTo cpos (starEach (e :: es) X.env)).all (fun x => !x.1) && (backToKw cpos (keywordEach [] X.env)).all (fun x => x.1.isSome)
      && decide ((e :: es).length + ([] : List Keyword).length + (if ([] : List Keyword).isEmpty then 0 else 1) < 30)) = true := by rfl)
    (hline : (apos.endLine == cpos.line) = true := by rfl) (hs : starEach (e :: es) X.env = (false, eval e X.env) :: starEach es X.env := by rfl) (hplain : (backTo cpos (starEach es X.env)).any (·.1) = false := by rfl) :
    PET X (.Call (.Attribute o name apos) (e :: es) [] cpos) (tBM X.K T r to tA) := by
  intro pins s σ H Q h0 I h
  refine wpAny_Call_method_late hbase hfew hline rfl (wpAny_mono (PySem.wpAny_toks_of h0 (ho.run pins s σ H _ I h)) (fun v s1 q => ?_) fun _ _ z => z.2)
  obtain ⟨h1', x, H1, I1, r1, ty, q1⟩ := q
  obtain ⟨h1, h2⟩ := tyV_is I1 r1 ty
  refine ⟨T, bid, pa, slot, hty, h1, h2, ?_⟩
  have hA := ha cpos pins s1 σ H1 _ h1' I1 q1
  rw [hs] at hA ⊢
  refine Calls.callWith_builtin (by show (false || (backTo cpos (starEach es X.env)).any (·.1)) = false; rw [hplain] <;> rfl) (Calls.evalArgs_plain ?_)
  exact thn hA fun us s2 ⟨vs, H2, I2, r2, q2⟩ => hm pins s2 σ H2 x vs v us Q I2 r1 r2 q2
def SEk (X : Cx) (W : WX) (e : Expr) (m : M D) : Prop := PEk X e (tG X.K W (relE X.K) m)
def SOk (X : Cx) (W : WX) (e : Expr) (m : M Hd) : Prop := PEk X e (tG X.K W (relO X.K) m)
def SNk (X : Cx) (W : WX) (e : Expr) (m : M D) : Prop := PEk X e (tG X.K W (relN X.K) m)
def SET (X : Cx) (W : WX) (e : Expr) (m : M D) : Prop := PET X e (tG X.K W (relE X.K) m)
def SNT (X : Cx) (W : WX) (e : Expr) (m : M D) : Prop := PET X e (tG X.K W (relN X.K) m)
def SsT (X : Cx) (W : WX) (ss : List Stmt) (m : M Fl) : Prop := PSsT X ss (tS X.K W m)
theorem sok_of (h : SEk X W e m) : SOk X W e (mVa m) := PEk_imp h fun σ H Q q => tG_va q
theorem sek_opC {op : Operator} {f : D → D → Option D} (ho : OpR X (binaryOp op) (rD2 X.K f)) (ha : SO X W a ma) : SEk X W (.BinOp a op (.Constant (.str z) j p) pos) (mOp2 f ma (mVa (M.ret (.str z)))) := PEk_imp (pek_opC ho ha) fun σ H Q q => by
  obtain ⟨F, g, S, q1⟩ := tOp_ok q
  exact ⟨F, g, S, Pst_imp q1 fun x H1 q2 => tG_cst q2⟩
theorem sek_opL {op : Operator} {f : D → D → Option D} (ho : OpR X (binaryOp op) (rD2 X.K f)) (ha : SOk X W a ma) (hb : SO X W b mb) : SEk X W (.BinOp a op b pos) (mOp2 f ma mb) := PEk_imp (pek_opL ho ha hb) fun σ H Q q => tOp_ok q
theorem tG_sn {m : M D} {Q : VK} (q : tG X.K W (relE X.K) m σ H Q) : tG X.K W (relN X.K) m σ H Q := by
  obtain ⟨F, g, S, q⟩ := q
  refine ⟨F, g, S, ?_⟩
  cases o : m g with
  | none => rw [o] at q; exact q
  | some r =>
    rw [o] at q
    cases r with
    | ex c g1 => exact q
    | ok d g1 =>
      intro v F1 H1 S1 P1 ⟨a, ev, c, n⟩
      subst ev
      have k0 : ∀ x, Foot H1 a x → H x = none := fun x f => (n x f).2.2
      refine q _ (frz F1 H1 a) H1 (S1.grow (frz_grow S1.sub) (frz_sub S1.sub) (fun x z o => ?_) rfl (fun _ _ z => .inl z) (fun _ _ _ z _ => z) (fun _ _ z => z) (c.frz_nt S1.tb.nf)) ⟨P1.fg.trans (frz_grow S1.sub), P1.st, fun x o h1 nb h2 h3 => ?_, P1.own, P1.kro, P1.kmb, P1.ki⟩ (c.frz S1.sub)
      · rw [frz_out fun f => (n x f).2.1 o]; exact z
      · obtain ⟨e1, e2⟩ := P1.fr x o h1 nb h2 h3
        refine ⟨e1, ?_⟩
        rw [frz_out fun f => by rw [k0 x f] at h1; cases h1]
        exact e2
theorem tG_lst {Q : VK} (q : tG X.K W (relN X.K) (mLst mr) σ H Q) : tLst (tG X.K W (relA X.K) mr) σ H Q := by
  obtain ⟨F, g, S, q⟩ := q
  refine ⟨F, g, S, Pst_bind Stp.refl q fun hs vs F1 H1 g1 S1 P1 P01 r1 q1 => ?_⟩
  refine mFrzs_ok (W := W) (R := fun vs H1 => vs.length ≤ sizeLine ∧ ∀ p, H1 p = none → Q (.ref p) (upd H1 p (.lst vs))) S1 Stp.refl r1 (Pst_bind P01 q1 fun ds ws F2 H2 g2 S2 P2 P02 r2 q2 => ?_)
  by_cases l : ds.length ≤ 1000000
  · rw [if_pos l] at q2
    have r2 : Reps X.K F2 ws ds := r2
    refine ⟨by rw [r2.length]; exact line_le l, fun p np => ?_⟩
    obtain ⟨S3, P3, r3⟩ := newN (o := HO.lst ws) (d := .lst ds) S2 P02 np (fun _ _ _ z => nomatch z) ⟨ws, upd_same, r2⟩
    exact q2 _ _ _ S3 P3 r3
  · rw [if_neg l] at q2; exact q2.elim
theorem tG_cons {Q : List V → Hp → Prop} (q : tG X.K W (relA X.K) (mCons ma mr) σ H Q) : tCons (tG X.K W (relO X.K) ma) (tG X.K W (relA X.K) mr) σ H Q := by
  obtain ⟨F, g, S, q⟩ := q
  exact ⟨F, g, S, Pst_bind Stp.refl q fun h v F1 H1 g1 S1 P1 P01 r1 q1 => ⟨F1, g1, S1, Pst_bind P01 q1 fun hs vs F2 H2 g2 S2 P2 P02 r2 q2 => q2 _ F2 H2 S2 P02 (.cons (HdR.mono P2.fg r1) r2)⟩⟩
def SAk (X : Cx) (W : WX) (es : List Expr) (m : M (List Hd)) : Prop := PAk X es (tG X.K W (relA X.K) m)
theorem sak_head (ha : SOk X W a ma) (hr : SA X W es mr) (hs : starEach (a :: es) X.env = (false, eval a X.env) :: starEach es X.env := by rfl) : SAk X W (a :: es) (mCons ma mr) := PAk_imp (pak_head ha hr hs) fun _ _ _ q => tG_cons q
theorem snk_lst (h : SAk X W es mr) : SNk X W (.List es pos) (mLst mr) := PEk_imp (pek_lst h) fun _ _ _ q => tG_lst q
theorem sok_ofN {m : M D} (h : SNk X W e m) : SOk X W e (mVa m) := PEk_imp h fun _ _ _ q => tG_sn (tG_va q)
theorem snk_opR {op : Operator} {f : D → D → Option D} (ho : OpR X (binaryOp op) (rN2 X.K f)) (ha : SO X W a ma) (hb : SOk X W b mb) : SNk X W (.BinOp a op b pos) (mOp2 f ma mb) := PEk_imp (pek_opR ho ha hb) fun _ _ _ q => tOpN_ok q
/-- x = e behind which a token is out, and what follows -/
theorem ss_setNK {pos' : Pos} {q : M D} {rest : List Stmt} {n : M Fl} (i : Nat) (hN : X.N.Nodup) (hi : X.N[i]? = some x) (hx : Loc X.env.scope x) (he : SNk X W e q) (hr : SsT X W rest n) (hs : swapsWith e (some (.Name x pos')) pos.line X.env = pure false := by rfl) (hf : X.fn x = true ∨ X.env.scope.names.lookup x = some .local := by first | exact .inl rfl | exact .inr rfl | assumption) :
    SSs X W (.Assign [.Name x pos'] e pos :: rest) (mSeq (mSetN i q) n) := PSs_imp (pss_consK (psk_set hN hi hx he hs hf) hr) fun E σ H q => by
  obtain ⟨F, g, S, q⟩ := q
  exact tSetN_ok (E := { E with nx := fun σ' H' => tS X.K W n E σ' H' }) ⟨F, g, S, mSeq_ok q⟩
theorem snt_lst (h : SAT X W es mr) : SNT X W (.List es pos) (mLst mr) := PET_imp (pet_lst h) fun _ _ _ q => tG_lst q
theorem sot_ofN {m : M D} (h : SNT X W e m) : SOT X W e (mVa m) := PET_imp h fun _ _ _ q => tG_sn (tG_va q)
theorem set_op2 {op : Operator} {f : D → D → Option D} (ho : OpR X (binaryOp op) (rD2 X.K f)) (ha : SOT X W a ma) (hb : SOT X W b mb) : SET X W (.BinOp a op b pos) (mOp2 f ma mb) := PET_imp (CwR.pet_op ho ha hb) fun _ _ _ q => tOp_ok q
theorem sst_ret {m : M D} (h : SET X W e m) : SsT X W [.Return (some e) pos] (m.bind fun d => M.ret (.rt d)) := by
  intro pins s σ H E h0 I q
  refine CwR.psst_one (CwR.pst_ret h) pins s σ H E h0 I ?_
  obtain ⟨F, g, S, q⟩ := q
  exact ⟨F, g, S, Pst_stm Stp.refl q fun d v F1 H1 g1 S1 P1 P01 r1 q1 => q1 v F1 σ H1 S1 P1 r1⟩
theorem set_wm {T bid : String} {name x : Str} {f : D → List D → Option (D × D)} (i : Nat) (pa : PlainAttrs T) (slot : Slot T name bid) (hty : typeOf (.builtin bid) = pure (.type "method_descriptor")) (hm : MtR X bid (rC X.K f)) (hN : X.N[i]? = some x) (hv : Vis X.env.scope x) (ha : SAT X W (e :: es) mr)
    (hd : (x == ("__debug__" : Str)) = false := by decide) (hcd : (x == ("__classdict__" : Str)) = false := by decide)
    (hbase : attributeBase (.Name x p) name X.env (eval (.Name x p) X.env) = eval (.Name x p) X.env := by rfl)
    (hfew : ((backTo cpos (starEach (e :: es) X.env)).all (fun x => !x.1) && (backToKw cpos (keywordEach [] X.env)).all (fun x => x.1.isSome)
      && decide ((e :: es).length + ([] : List Keyword).length + (if ([] : List Keyword).isEmpty then 0 else 1) < 30)) = true := by rfl)
    (hline : (apos.endLine == cpos.line) = true := by rfl) (hs : starEach (e :: es) X.env = (false, eval e X.env) :: starEach es X.env := by rfl) (hplain : (backTo cpos (starEach es X.env)).any (·.1) = false := by rfl) :
    SET X W (.Call (.Attribute (.Name x p) name apos) (e :: es) [] cpos) (mWm T i f mr) :=
  PET_imp (pet_bm pa slot hty hm (pe_var hN hv hd hcd) ha hbase hfew hline hs hplain) fun σ H Q q => by
    obtain ⟨F, g, S, q⟩ := q
    refine kindN_ok S q fun v hv ty q1 => ⟨v, hv, ty, F, g, S, Pst_bind Stp.refl q1 fun hs vs F1 H1 g1 S1 P1 P01 r1 q2 => ?_⟩
    exact mFrzs_ok (W := W) (R := fun vs H1 => rC X.K f v vs H1 Q) S1 Stp.refl r1 (Pst_bind P01 q2 fun ds ws F2 H2 g2 S2 P2 P02 r2 q3 => wr_ok (K := X.K) S2 P02 hv r2 q3)
/-- an expression as a statement, with a token out, and what follows -/
theorem sst_expr {m : M D} {rest : List Stmt} {n : M Fl} (h : SET X W e m) (hr : SsT X W rest n) (hs : swapsWith e none pos.line X.env = pure false := by rfl) : SsT X W (.Expr e pos :: rest) (mSeq (m.bind fun _ => M.ret .nx) n) := by
  intro pins s σ H E h0 I q
  refine psst_cons (pst_expr h hs) hr pins s σ H E h0 I ?_
  obtain ⟨F, g, S, q⟩ := q
  have q := mSeq_ok q
  exact ⟨F, g, S, Pst_stm Stp.refl q fun d v F1 H1 g1 S1 P1 P01 r1 q1 => q1 F1 σ H1 S1 P1⟩
end
end Cq

set_option Elab.async false
set_option linter.all false
set_option maxRecDepth 100000
namespace Cq
open PySem PySem.Spec PyProof.Rows L2
section
variable {X : Cx} {W : WX} {pos p apos : Pos} {σ : L2.St} {F H F0 H0 : Hp} {g g0 : Gm} {a e : Expr} {es : List Expr} {te : TE} {tA : TA} {ma : M Hd} {fa : Addr} {k : Nat}
def revS (x : Str) : Str := Txt.sliceBy x none none (-1, 0)
theorem pe_revS {k : Nat} {p1 p2 p3 : Pos} (he : PE X e te) : PE X (.Subscript e (.Slice none none (some (.UnaryOp .USub (.Constant (.int 1) k p1) p2)) p3) pos) (fun σ H Q => te σ H fun v H1 => ∃ x : Str, v = .str x ∧ x.length ≤ sizeLine ∧ Q (.str (revS x)) H1) := by
  refine ⟨fun pins s σ H Q I h => ?_⟩
  refine Subscript_ (thn (he.run pins s σ H _ I h) fun v s1 ⟨y, H1, I1, r1, q1⟩ => ?_)
  obtain ⟨x, ex, hx, q⟩ := q1
  subst ex
  obtain ⟨t, rfl⟩ := r1
  have hst : PO X (some (.UnaryOp .USub (.Constant (.int 1) k p1) p2)) (tPart (tUn (rU fun i => .int (-i)) (tC (.int 1)))) := po_some (pe_un un_neg pe_int)
  refine wpAny_Slice (thn (po_none.run pins s1 σ H1 (fun o H2 => o = none ∧ H2 = H1) I1 ⟨rfl, rfl⟩) fun vl s2 ⟨l, H2, I2, pl, el, e2⟩ => ?_)
  subst el e2
  refine thn (po_none.run pins s2 σ H2 (fun o H3 => o = none ∧ H3 = H2) I2 ⟨rfl, rfl⟩) fun vu s3 ⟨u, H3, I3, pu, eu, e3⟩ => ?_
  subst eu e3
  refine thn (hst.run pins s3 σ H3 (fun o H4 => o = some (-1) ∧ H4 = H3) I3 ⟨1, rfl, -1, rfl, rfl, rfl⟩) fun vs s4 ⟨o, H4, I4, ps, eo, e4⟩ => ?_
  subst eo e4
  cases pl
  cases pu
  cases ps with
  | int i ui =>
    have I5 : Inv X pins σ H4 { s4 with heap := s4.heap.push { cls := .type "slice", data := .fields #[.none, .none, .int (-1) ui] } } := I4.kept (t' := s4.toks) fun b ob q => Heap.get?_push_of_some _ q
    show wpAny (model X.prog X.w) X.A (subscriptTail e (.Slice none none (some (.UnaryOp .USub (.Constant (.int 1) k p1) p2)) p3) (.str x t) (.ref s4.heap.objs.size)) (EP X pins σ Q) X.xe { s4 with heap := s4.heap.push { cls := .type "slice", data := .fields #[.none, .none, .int (-1) ui] } }
    refine tail_any (ops := [.ref s4.heap.objs.size, .str x t]) (typeIs_str _ _ _) (F.slot_str_getitem.lookup) ?_ (by with_unfolding_all rfl)
    refine wpAny_getItem_str_slice (l := none) (u := none) (st := some (-1, ui)) ⟨_, Heap.get?_push_size _ rfl, rfl, rfl⟩ (show ((-1 : Int) == 0) = false by decide) ?_
    exact post_val_or_str ⟨Nat.le_trans (Txt.sliceBy_le x none none (-1, ui) (show (-1 : Int) ≠ 0 by decide)) hx, fun t' c => ⟨.str (revS x), H4, I5.tok c, ⟨t', rfl⟩, q⟩⟩
def dRevS : D → Option D
  | .str x => if x.length ≤ 1000000 then some (.str (revS x)) else none
  | _ => none
theorem se_revS {k : Nat} {p1 p2 p3 : Pos} (he : SO X W e ma) : SE X W (.Subscript e (.Slice none none (some (.UnaryOp .USub (.Constant (.int 1) k p1) p2)) p3) pos) (mOp1 dRevS ma) :=
  PE_imp (pe_revS he) fun σ H Q q => by
    obtain ⟨F, g, S, q⟩ := q
    refine ⟨F, g, S, Pst_bind Stp.refl q fun h v F1 H1 g1 S1 P1 P01 r1 q1 => ?_⟩
    obtain ⟨F4, d, z, sb, r, hz, k⟩ := f1_ok S1 P01 r1 q1
    cases d with
    | str x =>
      simp only [dRevS] at hz
      by_cases c : x.length ≤ 1000000
      · rw [if_pos c] at hz; cases hz; cases r.str
        exact ⟨x, rfl, line_le c, k _ F4 H1 (Al.refl sb) (.str _)⟩
      · rw [if_neg c] at hz; cases hz
    | _ => cases hz
def dMulS : D → D → Option D
  | .str x, .int n => if x.length ≤ 1000 ∧ 0 ≤ n ∧ n ≤ 1000 then some (.str (Txt.mul x n)) else none
  | _, _ => none
theorem mul_okS {x : Str} {n : Int} (h : x.length ≤ 1000 ∧ 0 ≤ n ∧ n ≤ 1000) : MulOk x n := by
  obtain ⟨h1, h2, h3⟩ := h
  refine ⟨?_, fun c _ => ?_, fun c _ => ?_⟩
  · simp only [Bool.or_eq_false_iff, decide_eq_false_iff_not]
    omega
  · have : (2 ^ 63 - 1 : Int) / n ≥ (2 ^ 63 - 1) / 1000 := by
      have hn : 0 < n := by omega
      rw [ge_iff_le, Int.le_ediv_iff_mul_le hn]
      have : (2 ^ 63 - 1 : Int) / 1000 * n ≤ (2 ^ 63 - 1 : Int) / 1000 * 1000 := Int.mul_le_mul_of_nonneg_left h3 (by decide)
      have : (2 ^ 63 - 1 : Int) / 1000 * 1000 ≤ 2 ^ 63 - 1 := by decide
      omega
    have : (2 ^ 63 - 1 : Int) / 1000 > 1000 := by decide
    omega
  · unfold PySem.Builtin.Str.tooLong PySem.sizeLine
    have : x.length * n.toNat ≤ 1000 * 1000 := Nat.mul_le_mul h1 (by omega)
    exact decide_eq_false (by omega)
theorem ow_mulS : OpR X (binaryOp .Mult) (rD2 X.K dMulS) := by
  intro pins s σ H x y v u Q I rx ry h
  obtain ⟨F, d, e, z, sb, r1, r2, hz, q⟩ := h
  cases d <;> cases e <;> simp only [dMulS] at hz <;> first | cases hz | skip
  rename_i xs n
  by_cases c : xs.length ≤ 1000 ∧ 0 ≤ n ∧ n ≤ 1000
  · rw [if_pos c] at hz; cases hz
    cases r1.str; cases r2.int
    obtain ⟨t, rfl⟩ := rx
    obtain ⟨t2, rfl⟩ := ry
    exact SB.mul (mul_okS c) fun t' k => ⟨.str (Txt.mul xs n), H, I.tok k, ⟨t', rfl⟩, q _ F H (Al.refl sb) (.str _)⟩
  · rw [if_neg c] at hz; cases hz
def mReprX (c : Nat) (ms : List Md) (f : Fn) (ml : M (List Hd)) : M D := ml.bind fun hs => fun g => match hs with
  | [h] => (match h.ins g with
    | some _ => ((mCls [c] h).bind fun _ => (mCallF ms f [h]).bind dStrChk) g
    | none => mFs dReprD [h] g)
  | _ => none
theorem pe_reprX {c : Nat} {sp : Sp} {x : Str} (sm : SmK X.K) (gd : X.A.guards = some []) (hg : Gl X x) (hx : X.mg x = none) (hv : bootBuiltins x = some (.builtin "repr")) (ha : PA X (a :: es) tA) (hm : Meth X.K (ca X.K c) "__repr__" fa) (C : FnR X.prog X.w X.K X.mg X.base (L2.CX X.prog X.w) k fa sp) (hr : Room (k + 1) X.A) (tk : Takes X W) (hu : X.A.units + 64 < cLine)
    (hn : x ≠ "__name__" := by decide) (hdb : (x == ("__debug__" : Str)) = false := by decide)
    (he : starEach (a :: es) X.env = (false, eval a X.env) :: starEach es X.env := by rfl) (hpl : (backTo pos (starEach es X.env)).any (·.1) = false := by rfl) :
    PE X (.Call (.Name x p) (a :: es) [] pos) (fun σ H Q => tA σ H fun vs H1 => (∃ x, vs = [x] ∧ In1 X.K c x H1 ∧ sp [x] H1 (fun v H2 => ∃ z : Str, v = .str z ∧ Q (.str z) H2) (WE W σ)) ∨ rDs X.K dReprD vs H1 Q) := by
  refine ⟨fun pins s σ H Q I h => ?_⟩
  refine wpAny_Call_Name_kw (ld_blt I hg hx hv ?_ hn hdb)
  refine PyProof.Rows.callWith_builtin1 (thn (ha.run pos pins s σ H _ I h) fun us s1 ⟨vs, H1, I1, r1, q1⟩ => ?_) he hpl
  rcases q1 with q1 | q1
  · obtain ⟨x, rfl, ⟨p, dx, fs, rfl, hp⟩, q⟩ := q1
    cases r1 with
    | cons r0 rn =>
      cases rn
      cases r0
      obtain ⟨mA, J, _⟩ := ins_get I1.hok hp
      obtain ⟨od, J, _⟩ := J.look
      obtain ⟨m, hF⟩ := I1.fr
      refine PySem.W.repr_K (show X.A.units + 1 < cLine by omega) hF I1.ok.mod.kin J hm.at_ hm.fn ?_
      refine wpAny_mono (codB1 C hr tk I1 (vs := [.ref p]) (.cons rfl .nil) q) (fun v s' z => ?_) fun _ _ z => z
      obtain ⟨y, H2, I2, r2, n, rfl, q2⟩ := z
      obtain ⟨t, rfl⟩ := r2
      exact ⟨.str n, H2, I2, ⟨_, rfl⟩, q2⟩
  · exact cw_reprD sm gd hu pins s1 σ H1 vs us Q I1 r1 q1
theorem se_reprX {c : Nat} {ms : List Md} {f : Fn} {ml : M (List Hd)} {x : Str} (sm : SmK X.K) (gd : X.A.guards = some []) (hg : Gl X x) (hx : X.mg x = none) (hv : bootBuiltins x = some (.builtin "repr")) (ha : SA X W (a :: es) ml) (hm : Meth X.K (ca X.K c) "__repr__" fa) (C : FnR X.prog X.w X.K X.mg X.base (L2.CX X.prog X.w) k fa (spF X.K ms f)) (hr : Room (k + 1) X.A) (tk : Takes X W) (hu : X.A.units + 64 < cLine)
    (hn : x ≠ "__name__" := by decide) (hdb : (x == ("__debug__" : Str)) = false := by decide)
    (he : starEach (a :: es) X.env = (false, eval a X.env) :: starEach es X.env := by rfl) (hpl : (backTo pos (starEach es X.env)).any (·.1) = false := by rfl) :
    SE X W (.Call (.Name x p) (a :: es) [] pos) (mReprX c ms f ml) :=
  PE_imp (pe_reprX sm gd hg hx hv ha hm C hr tk hu hn hdb he hpl) fun σ H Q q => by
    obtain ⟨F, g, S, q⟩ := q
    refine ⟨F, g, S, Pst_bind Stp.refl q fun hs vs F1 H1 g1 S1 P1 P01 r1 q1 => ?_⟩
    cases hs with
    | nil => exact q1.elim
    | cons h t =>
      cases t with
      | cons _ _ => exact q1.elim
      | nil =>
        have q1 : Pst X.K W σ (relE X.K) F H g Q (match h.ins g1 with
          | some _ => ((mCls [c] h).bind fun _ => (mCallF ms f [h]).bind dStrChk) g1
          | none => mFs dReprD [h] g1) := q1
        cases hi : h.ins g1 with
        | none =>
          rw [hi] at q1
          exact .inr (fs_ok S1 P01 r1 q1)
        | some cf =>
          rw [hi] at q1
          left
          cases r1 with
          | cons r1 rn =>
            cases rn
            refine ⟨_, rfl, cls_ok S1 r1 q1 fun c1 a dx fv fs z1 z2 z3 z4 z5 q3 => ?_⟩
            cases List.mem_singleton.mp z1
            refine ⟨⟨a, dx, fv, z2, z3⟩, callF_ok S1 Stp.refl (.cons r1 .nil) (Pst_bind P01 q3 fun d v F2 H2 g2 S2 P2 P02 r2 q4 => ?_)⟩
            cases d with
            | str n =>
              have r2 : Rep X.K F2 v (.str n) := r2
              cases r2
              exact ⟨n, rfl, q4 _ F2 H2 S2 P02 (.str n)⟩
            | _ => exact q4.elim
end
end Cq

set_option Elab.async false
set_option linter.all false
set_option maxRecDepth 100000
set_option maxHeartbeats 2000000
namespace Cq
open PySem PySem.Spec PyProof.Rows L2
section
variable {X : Cx} {W : WX} {pos p apos : Pos} {σ : L2.St} {F H F0 H0 : Hp} {g g0 : Gm} {a b e o : Expr} {es : List Expr} {ta tb te : TE} {tA : TA} {ma mb me : M Hd} {fa : Addr} {k : Nat}
theorem pe_reprXH {c : Nat} {sp : Sp} {x : Str} (sm : SmK X.K) (gd : X.A.guards = some []) (hg : Gl X x) (hx : X.mg x = none) (hv : bootBuiltins x = some (.builtin "repr")) (ha : PA X (a :: es) tA) (hm : Meth X.K (ca X.K c) "__repr__" fa) (C : FnRH X.prog X.w X.K X.mg X.base (L2.CX X.prog X.w) k fa sp) (hr : L2H.RoomH (k + 1) X.A) (hc0 : L2H.HotC X) (tk : Takes X W) (hu : X.A.units + 64 < cLine)
    (hn : x ≠ "__name__" := by decide) (hdb : (x == ("__debug__" : Str)) = false := by decide)
    (he : starEach (a :: es) X.env = (false, eval a X.env) :: starEach es X.env := by rfl) (hpl : (backTo pos (starEach es X.env)).any (·.1) = false := by rfl) :
    PE X (.Call (.Name x p) (a :: es) [] pos) (fun σ H Q => tA σ H fun vs H1 => (∃ x, vs = [x] ∧ In1 X.K c x H1 ∧ sp [x] H1 (fun v H2 => ∃ z : Str, v = .str z ∧ Q (.str z) H2) (WE W σ)) ∨ rDs X.K dReprD vs H1 Q) := by
  refine ⟨fun pins s σ H Q I h => ?_⟩
  refine wpAny_Call_Name_kw (ld_blt I hg hx hv ?_ hn hdb)
  refine PyProof.Rows.callWith_builtin1 (thn (ha.run pos pins s σ H _ I h) fun us s1 ⟨vs, H1, I1, r1, q1⟩ => ?_) he hpl
  rcases q1 with q1 | q1
  · obtain ⟨x, rfl, ⟨p, dx, fs, rfl, hp⟩, q⟩ := q1
    cases r1 with
    | cons r0 rn =>
      cases rn
      cases r0
      exact run_reprIH hm C hr hc0 tk I1 hp q
  · exact cw_reprD sm gd hu pins s1 σ H1 vs us Q I1 r1 q1
theorem se_reprXH {c : Nat} {ms : List Md} {f : Fn} {ml : M (List Hd)} {x : Str} (sm : SmK X.K) (gd : X.A.guards = some []) (hg : Gl X x) (hx : X.mg x = none) (hv : bootBuiltins x = some (.builtin "repr")) (ha : SA X W (a :: es) ml) (hm : Meth X.K (ca X.K c) "__repr__" fa) (C : FnRH X.prog X.w X.K X.mg X.base (L2.CX X.prog X.w) k fa (spF X.K ms f)) (hr : L2H.RoomH (k + 1) X.A) (hc0 : L2H.HotC X) (tk : Takes X W) (hu : X.A.units + 64 < cLine)
    (hn : x ≠ "__name__" := by decide) (hdb : (x == ("__debug__" : Str)) = false := by decide)
    (he : starEach (a :: es) X.env = (false, eval a X.env) :: starEach es X.env := by rfl) (hpl : (backTo pos (starEach es X.env)).any (·.1) = false := by rfl) :
    SE X W (.Call (.Name x p) (a :: es) [] pos) (mReprX c ms f ml) :=
  PE_imp (pe_reprXH sm gd hg hx hv ha hm C hr hc0 tk hu hn hdb he hpl) fun σ H Q q => by
    obtain ⟨F, g, S, q⟩ := q
    refine ⟨F, g, S, Pst_bind Stp.refl q fun hs vs F1 H1 g1 S1 P1 P01 r1 q1 => ?_⟩
    cases hs with
    | nil => exact q1.elim
    | cons h t =>
      cases t with
      | cons _ _ => exact q1.elim
      | nil =>
        have q1 : Pst X.K W σ (relE X.K) F H g Q (match h.ins g1 with
          | some _ => ((mCls [c] h).bind fun _ => (mCallF ms f [h]).bind dStrChk) g1
          | none => mFs dReprD [h] g1) := q1
        cases hi : h.ins g1 with
        | none =>
          rw [hi] at q1
          exact .inr (fs_ok S1 P01 r1 q1)
        | some cf =>
          rw [hi] at q1
          left
          cases r1 with
          | cons r1 rn =>
            cases rn
            refine ⟨_, rfl, cls_ok S1 r1 q1 fun c1 a dx fv fs z1 z2 z3 z4 z5 q3 => ?_⟩
            cases List.mem_singleton.mp z1
            refine ⟨⟨a, dx, fv, z2, z3⟩, callF_ok S1 Stp.refl (.cons r1 .nil) (Pst_bind P01 q3 fun d v F2 H2 g2 S2 P2 P02 r2 q4 => ?_)⟩
            cases d with
            | str n =>
              have r2 : Rep X.K F2 v (.str n) := r2
              cases r2
              exact ⟨n, rfl, q4 _ F2 H2 S2 P02 (.str n)⟩
            | _ => exact q4.elim
end
end Cq

set_option Elab.async false
set_option linter.all false
set_option maxRecDepth 100000
set_option maxHeartbeats 1000000
namespace Cq
open PySem PySem.Spec PyProof.Rows L2
section
variable {X : Cx} {W : WX} {σ : L2.St} {F H F0 H0 : Hp} {g g0 : Gm} {e : Expr}
theorem noEx_ok0 {α β : Type} {rel : Rl α β} {m : M α} {Q : β → Hp → Prop} (q : Pst X.K W σ rel F0 H0 g0 Q (noEx m g)) : Pst X.K W0 σ rel F0 H0 g0 Q (m g) := by
  unfold noEx at q
  cases o : m g with
  | none => rw [o] at q; exact q
  | some r => cases r with
    | ok f g1 => rw [o] at q; exact q
    | ex c g1 => rw [o] at q; exact q.elim
theorem se_up0 {m : M D} (h : SE X W0 e m) : SE X W e (noEx m) := PE_imp h fun σ H Q q => by
  obtain ⟨F, g, S, q⟩ := q
  exact ⟨F, g, S, noEx_ok0 q⟩
theorem codR_fnN {k : Nat} {f : Addr} {sp : Sp} (F : FnR X.prog X.w X.K X.mg X.base (L2N.CX X.prog X.w) k f sp) (hr : Room k X.A) (tk : L2N.Takes X W) : CodR X W f sp := by
  intro pins s σ H us vs Q I r h
  refine codeAny_mono (F X.A X.stack s H us vs Q (WE W σ) hr I.env0 r h) fun r s' hq => ?_
  cases r with
  | error e => exact L2N.passAt tk σ pins H s e s' I hq
  | ok fl =>
    cases fl with
    | ret u => exact I.after hq
    | next => exact False.elim hq
    | brk => exact False.elim hq
    | cont => exact False.elim hq
theorem sb_up0 {m : M Bool} (h : SB X W0 e m) : SB X W e (noEx m) := PT_imp h fun σ H Q q => by
  obtain ⟨F, g, S, q⟩ := q
  exact ⟨F, g, S, noEx_ok0 q⟩
end
end Cq

set_option Elab.async false
set_option linter.all false
set_option maxRecDepth 100000
set_option Elab.async false
set_option linter.all false
set_option maxRecDepth 100000
namespace Cq
open PySem PySem.Spec PyProof.Rows L2
section
variable {X : Cx} {W : WX} {pos : Pos} {σ : L2.St} {F H F0 H0 : Hp} {g g0 : Gm} {ke ve : Expr} {mk mv : M D}
theorem sn_dct0 : SN X W (.Dict [] [] pos) (M.ret (.dik [])) := PE_imp pe_dnewK fun σ H Q q => by
  obtain ⟨F, g, S, q⟩ := q
  intro p np
  obtain ⟨S3, P3, r3⟩ := newN (o := HO.dK []) (d := .dik []) S Stp.refl np (fun _ _ _ z => nomatch z) ⟨[], upd_same, rfl, .nil⟩
  exact q _ _ _ S3 P3 r3
end
end Cq

set_option Elab.async false
set_option linter.all false
set_option maxRecDepth 100000
set_option maxHeartbeats 1000000
set_option Elab.async false
set_option linter.all false
set_option maxRecDepth 100000
set_option maxHeartbeats 1000000
namespace Cq
open PySem PySem.Spec PyProof.Rows L2
structure FunK (K : Frag) (x qual : PySem.Str) (params : Arguments) (body : List Stmt) (scope : Scope) (dvs : List V) (f D : Addr) (file : PySem.Str) : Prop where
  ex : ∃ (oc : Value) (od : Option Addr) (dV kV doc pm : Value) (an : Option Addr) (cda : Addr) (ct : Value) (cc : Addr) (osl : Array (Option Value)),
    K.lookup f = some ⟨oc, od, .func (PySem.W.ksFn x qual params body scope dV kV doc pm an (.ref cda) ct cc), osl⟩ ∧ PySem.W.codeIn K (.ref cda) qual = true ∧ DflV K dV dvs ∧
    (∃ oc od vs osl tf, K.lookup cda = some ⟨oc, od, .fields vs, osl⟩ ∧ vs[2]? = some (.str file tf)) ∧ ∃ oc od osl, K.lookup cc = some ⟨oc, od, .cell (some (.ref D)), osl⟩
  kp : PySem.W.keepIn K (.ref f) = true
  cls : ∃ cd, PySem.W.clsIn K D = some cd
structure DefK where
  at_ : Frag → Addr
  name : PySem.Str
  qual : PySem.Str
  params : Arguments
  body : List Stmt
  scope : Scope
  dfl : List He.Dv
  cls : Nat
  file : PySem.Str
def fnB (K : Frag) (a : Addr) : He.FnW := match K.lookup a with
  | some ⟨_, _, .func fd, _⟩ => some (fd.name, fd.qualname, fd.params, fd.body, fd.scope, fd.globals, [], fd.builtins)
  | _ => none
def DefK.val (d : DefK) : He.FnW := some (d.name, d.qual, d.params, .stmts d.body, d.scope, mainGlobals, [], builtinsNs)
def DefK.dvs (K : Frag) (d : DefK) : List L2.V := d.dfl.map (He.Dv.v K)
def cloB (K : Frag) (C : Addr) (l : List (PySem.Str × Addr)) : Bool := match l with
  | [(n, cc)] => n == ("__class__" : PySem.Str) && (match K.lookup cc with
    | some ⟨_, _, .cell (some (.ref D)), _⟩ => D == C
    | _ => false)
  | _ => false
theorem cloB_ok {K : Frag} {C : Addr} {l : List (PySem.Str × Addr)} (h : cloB K C l = true) : ∃ cc oc od osl, l = [(("__class__" : PySem.Str), cc)] ∧ K.lookup cc = some ⟨oc, od, .cell (some (.ref C)), osl⟩ := by
  unfold cloB at h
  split at h
  · rename_i n cc
    obtain ⟨h1, h2⟩ := He.ba h
    split at h2
    · rename_i oc od D osl e
      have e1 : n = ("__class__" : PySem.Str) := eq_of_beq h1
      have e2 : D = C := eq_of_beq h2
      subst e1 e2
      exact ⟨cc, oc, od, osl, rfl, e⟩
    · cases h2
  · cases h
def filB (K : Frag) (file : PySem.Str) (cd : Value) : Bool := match cd with
  | .ref cda => (match K.lookup cda with
    | some ⟨_, _, .fields vs, _⟩ => (match vs[2]? with
      | some (Value.str z _) => z == file
      | _ => false)
    | _ => false)
  | _ => false
theorem filB_ok {K : Frag} {file : PySem.Str} {cd : Value} (h : filB K file cd = true) : ∃ cda oc od vs osl tf, cd = .ref cda ∧ K.lookup cda = some ⟨oc, od, .fields vs, osl⟩ ∧ vs[2]? = some (.str file tf) := by
  unfold filB at h
  split at h
  · rename_i cda
    split at h
    · rename_i oc od vs osl e
      split at h
      · rename_i z tf e2
        have e3 : z = file := eq_of_beq h
        subst e3
        exact ⟨cda, oc, od, vs, osl, tf, rfl, e, e2⟩
      · cases h
    · cases h
  · cases h
def DefK.ok (K : Frag) (d : DefK) : Bool := PySem.W.keepIn K (.ref (d.at_ K)) && ((PySem.W.clsIn K (ca K d.cls)).isSome && (match K.lookup (d.at_ K) with
  | some ⟨_, _, .func fd, _⟩ => PySem.W.codeIn K fd.code d.qual && (He.dflB K fd.defaults (d.dvs K) && (cloB K (ca K d.cls) fd.closure && filB K d.file fd.code))
  | _ => false))
theorem DefK.funK {K : Frag} {d : DefK} (e : fnB K (d.at_ K) = d.val) (c : d.ok K = true) : FunK K d.name d.qual d.params d.body d.scope (d.dvs K) (d.at_ K) (ca K d.cls) d.file := by
  obtain ⟨kp, c2⟩ := He.ba c
  obtain ⟨kc, c2⟩ := He.ba c2
  unfold fnB at e
  cases q : K.lookup (d.at_ K) with
  | none => rw [q] at c2; cases c2
  | some o =>
    obtain ⟨oc, od, dt, osl⟩ := o
    rw [q] at c2 e
    cases dt with
    | func fd =>
      obtain ⟨n1, n2, n3, n4, n5, n6, n7, n8, n9, n10, n11, n12, n13, n14, n15⟩ := fd
      have e2 : (some (n1, n2, n3, n4, n5, n6, [], n15) : He.FnW) = some (d.name, d.qual, d.params, .stmts d.body, d.scope, mainGlobals, [], builtinsNs) := e
      simp only [Option.some.injEq, Prod.mk.injEq] at e2
      obtain ⟨h1, h2, h3, h4, h5, h6, -, h8⟩ := e2
      subst h1 h2 h3 h4 h5 h6 h8
      have c3 : (PySem.W.codeIn K n13 d.qual && (He.dflB K n8 (d.dvs K) && (cloB K (ca K d.cls) n7 && filB K d.file n13))) = true := c2
      obtain ⟨k1, k2⟩ := He.ba c3
      obtain ⟨k3, k4⟩ := He.ba k2
      obtain ⟨k5, k6⟩ := He.ba k4
      obtain ⟨cc, a1, a2, a3, rfl, a4⟩ := cloB_ok k5
      obtain ⟨cda, b1, b2, b3, b4, b5, rfl, b6, b7⟩ := filB_ok k6
      exact ⟨⟨oc, od, n8, n9, n10, n11, n12, cda, n14, cc, osl, q, k1, He.dflB_ok k3, ⟨b1, b2, b3, b4, b5, b6, b7⟩, a1, a2, a3, a4⟩, kp, Option.isSome_iff_exists.mp kc⟩
    | _ => cases c2
structure SupM (K : Frag) (C D : Addr) (m : PySem.Str) (g : Addr) : Prop where
  at_ : PySem.W.ks_superIn K C D m = some (some (.ref g))
  ty : PySem.W.typeIn K (.ref g) = some (.type "function")
  fi : PySem.W.fnIn K g = true
  sub : PySem.W.mroIn K C (.ref D) = some true
  tp : PySem.W.nsIn K cStatics "thirdparty.any" = some none
def SaysK (fk : List DefK) (K : Frag) : Prop := fk.all (fun d => d.ok K) = true ∧ fk.map (fun d => fnB K (d.at_ K)) = fk.map DefK.val
theorem SaysK.def_ {fk : List DefK} {K : Frag} (c : SaysK fk K) (i : Nat) {d : DefK} (h : fk[i]? = some d := by rfl) : FunK K d.name d.qual d.params d.body d.scope (d.dvs K) (d.at_ K) (ca K d.cls) d.file := by
  have e2 : (fk.map fun d => fnB K (d.at_ K))[i]? = (fk.map DefK.val)[i]? := by rw [c.2]
  rw [List.getElem?_map, List.getElem?_map, h] at e2
  exact DefK.funK (Option.some.inj e2) (List.all_eq_true.mp c.1 d (List.mem_of_getElem? h))
end Cq
set_option Elab.async false
set_option linter.all false
set_option maxRecDepth 100000
set_option Elab.async false
set_option linter.all false
set_option maxRecDepth 100000
namespace Cq.S
open PySem PySem.W PySem.Calls PyProof.Rows
/-- what the model's tables say of a built-in type T and an operator -/
structure OpT (nm T : String) : Prop where
  look : ∃ o1 o2 : Option Value, typeLookup (.type T) (PySem.dunder nm) = pure o1 ∧ typeLookup (.type T) (dunderR nm) = pure o2
  sub : ∀ (K : Frag) (C : Addr), subIn K (.type T) (.ref C) = some false
set_option maxHeartbeats 4000000 in
theorem opT_all : ∀ nm ∈ ["add", "or", "mul"], ∀ T ∈ ["NoneType", "bool", "int", "str", "tuple", "list", "dict"], OpT nm T := by
  intro nm hn T hT
  simp only [List.mem_cons, List.not_mem_nil, or_false] at hn hT
  rcases hn with rfl | rfl | rfl <;> rcases hT with rfl | rfl | rfl | rfl | rfl | rfl | rfl <;> exact ⟨⟨_, _, by rfl, by rfl⟩, fun K C => by rfl⟩
end Cq.S

set_option Elab.async false
set_option linter.all false
set_option maxRecDepth 100000
namespace Cq
open PySem PySem.Spec PyProof.Rows L2
section
variable {X : Cx} {W : WX} {pos p apos : Pos} {σ : L2.St} {F H F0 H0 : Hp} {g g0 : Gm} {a b e o : Expr} {es : List Expr} {ta tb : TE} {ma mb : M Hd} {fa : Addr}
def tynames : List String := ["NoneType", "bool", "int", "str", "tuple", "list", "dict"]
/-- an instance of the class c on the left; on the right one too, or a value of a built-in type -/
def InA (K : Frag) (c : Nat) (x y : V) (H : Hp) : Prop := (∃ a dx fs, x = .ref a ∧ H a = some (.ins (ca K c) dx fs)) ∧ ((∃ b dy gs, y = .ref b ∧ H b = some (.ins (ca K c) dy gs)) ∨ ∃ T ∈ tynames, TyX K H y (.type T))
theorem notFirst_T (K : Frag) (C : Addr) : ∀ T ∈ tynames, PySem.W.notFirst K C (.type T) = true := by
  intro T hT
  have := (Cq.S.opT_all "add" (by decide) T hT).sub K C
  unfold PySem.W.notFirst
  rw [this]
  simp
theorem pe_icmpA {op : CmpOp} {c : Nat} {sp : Sp} (hop : ∀ v u : Value, compareOp op v u = richCompare op v u) (ha : PE X a ta) (hb : PE X b tb) (hu : X.A.units < cLine) (hm : Meth X.K (ca X.K c) (PySem.cmpInfo op).2.1 fa) (C : CodR X W fa sp) (hmk : behindInMarks op b = false) :
    PE X (.Compare a [op] [b] pos) (fun σ H Q => ta σ H fun x H1 => tb σ H1 fun y H2 => InA X.K c x y H2 ∧ sp [x, y] H2 Q (WE W σ)) := by
  refine ⟨fun pins s σ H Q I h => wpAny_Compare1 (binT ha hb I h fun v u s2 x y H2 I2 rx ry q => ?_) hmk⟩
  obtain ⟨⟨⟨a, dx, fs, rfl, ha⟩, hy⟩, q⟩ := q
  cases rx
  rw [hop]
  obtain ⟨mA, J, _⟩ := ins_get I2.hok ha
  obtain ⟨od, J, _⟩ := J.look
  obtain ⟨m, hF⟩ := I2.fr
  rcases hy with ⟨b, dy, gs, rfl, hb⟩ | ⟨T, hT, ty⟩
  · cases ry
    obtain ⟨mB, J', _⟩ := ins_get I2.hok hb
    obtain ⟨od', J', _⟩ := J'.look
    exact PySem.W.cmp_K (tb := .ref (ca X.K c)) hu hF I2.ok.mod.kin J J'.type (by simp [PySem.W.notFirst]) hm.at_ hm.fn (codB C I2 (vs := [.ref a, .ref b]) (.cons rfl (.cons rfl .nil)) q)
  · obtain ⟨P, kit, hP, _⟩ := kit_of I2 ry ty
    have X2 := I2.ok.mod.kin.keeps hF.keep
    exact PySem.W.cmp_K (tb := .type T) hu hF I2.ok.mod.kin J (kit.ty _ _ X2 hP) (notFirst_T _ _ T hT) hm.at_ hm.fn (codB C I2 (vs := [.ref a, y]) (.cons rfl (.cons ry .nil)) q)
/-- a datum of a built-in type -/
def tyD : D → Option String
  | .non => some "NoneType"
  | .bl _ => some "bool"
  | .int _ => some "int"
  | .str _ => some "str"
  | .tup _ => some "tuple"
  | .lst _ => some "list"
  | .dik _ => some "dict"
  | .dit _ => some "dict"
  | _ => none
theorem tyD_ok {K : Frag} {v : V} {d : D} {T : String} (s : Sub F H) (r : RoV K F H v d) (h : tyD d = some T) : ∃ T ∈ tynames, TyX K H v (.type T) := by
  have tupT : ∀ {a : Addr} {vs : List V}, SqT K H a vs → TyX K H (.ref a) (.type "tuple") := fun {a vs} h => by
    rcases h with (h | ⟨o, h⟩) | ⟨o, its, n, h1, h2, _⟩
    · exact .base (.tup h)
    · exact .fTuple h
    · exact .kTuple h1 h2
  cases d with
  | non => cases r.non; exact ⟨_, by decide, .base .non⟩
  | bl b => cases r.bl; exact ⟨_, by decide, .base (.bl b)⟩
  | int i => cases r.int; exact ⟨_, by decide, .base (.int i)⟩
  | str x => cases r.str; exact ⟨_, by decide, .base (.str x)⟩
  | tup xs => obtain ⟨p, vs, rfl, k1, k2, _⟩ := r.tup s; exact ⟨"tuple", by decide, tupT k1⟩
  | lst xs => obtain ⟨p, vs, rfl, k1, k2⟩ := r.lst s; exact ⟨"list", by decide, .base (.lst k1)⟩
  | dik xs =>
    have : ∃ a kvs, v = .ref a ∧ H a = some (.dK kvs) := by
      rcases r with r | ⟨a, rfl, ⟨kv, h, _⟩, _⟩
      · cases r with
        | dik h _ _ => exact ⟨_, _, rfl, s _ _ h⟩
      · exact ⟨_, _, rfl, h⟩
    obtain ⟨a, kvs, rfl, e⟩ := this
    exact ⟨"dict", by decide, .base (.dK e)⟩
  | dit xs =>
    have : ∃ a kvs, v = .ref a ∧ H a = some (.dT kvs) := by
      rcases r with r | ⟨a, rfl, ⟨kv, h, _⟩, _⟩
      · cases r with
        | dit h _ _ => exact ⟨_, _, rfl, s _ _ h⟩
      · exact ⟨_, _, rfl, h⟩
    obtain ⟨a, kvs, rfl, e⟩ := this
    exact ⟨"dict", by decide, .base (.dT e)⟩
  | _ => cases h
/-- the right side: an instance of class c, or a value of a built-in type -/
def mRhs (c : Nat) (h : Hd) : M Unit := fun g => match h.ins g with
  | some (c', fs) => if ([c].contains c' && okF fs) = true then some (.ok () g) else none
  | none => match h.rd g with
    | some d => (match tyD d with
      | some _ => some (.ok () g)
      | none => none)
    | none => none
def mIopA (c : Nat) (k : Hd → Hd → M D) (ma mb : M Hd) : M D := ma.bind fun h => mb.bind fun h' => (mCls [c] h).bind fun _ => (mRhs c h').bind fun _ => k h h'
theorem iopA_ok {c : Nat} {P : V → V → Hp → Prop} {rel : Rl D V} {k : Hd → Hd → M D} {Q : VK}
    (hk : ∀ {F H : Hp} {g : Gm} {h h' : Hd} {x y : V}, Sta X.K F g σ H → Stp F0 H0 g0 σ F H g σ → HdsR X.K F σ [h, h'] [x, y] → Pst X.K W σ rel F0 H0 g0 Q (k h h' g) → P x y H)
    (S : Sta X.K F0 g0 σ H0) (q : Pst X.K W σ rel F0 H0 g0 Q (mIopA c k ma mb g0)) :
    tG X.K W (relO X.K) ma σ H0 fun x H1 => tG X.K W (relO X.K) mb σ H1 fun y H2 => InA X.K c x y H2 ∧ P x y H2 := by
  refine ⟨F0, g0, S, Pst_bind Stp.refl q fun h v F1 H1 g1 S1 P1 P01 r1 q1 => ⟨F1, g1, S1, Pst_bind P01 q1 fun h' w F2 H2 g2 S2 P2 P02 r2 q2 => ?_⟩⟩
  have r1' := HdR.mono P2.fg r1
  refine cls_ok S2 r1' q2 fun c1 a dx fv fs z1 z2 z3 z4 z5 q3 => ?_
  cases List.mem_singleton.mp z1
  have left : ∃ a dx fs, v = .ref a ∧ H2 a = some (.ins (ca X.K c) dx fs) := ⟨a, dx, fv, z2, z3⟩
  cases hi : h'.ins g2 with
  | some cf =>
    obtain ⟨c', fs'⟩ := cf
    by_cases cc : ([c].contains c' && okF fs') = true
    · have e : (mRhs c h').bind (fun _ => k h h') g2 = (mCls [c] h').bind (fun _ => k h h') g2 := by
        unfold M.bind mRhs mCls
        simp only [hi, cc, if_true]
      rw [e] at q3
      refine cls_ok S2 r2 q3 fun c2 b dy gv gs y1 y2 y3 y4 y5 q4 => ?_
      cases List.mem_singleton.mp y1
      exact ⟨⟨left, .inl ⟨b, dy, gv, y2, y3⟩⟩, hk S2 P02 (.cons r1' (.cons r2 .nil)) q4⟩
    · have e : (mRhs c h').bind (fun _ => k h h') g2 = none := by
        unfold M.bind mRhs
        simp only [hi, cc, Bool.false_eq_true, if_false]
      rw [e] at q3; exact q3.elim
  | none =>
    cases hd : h'.rd g2 with
    | none =>
      have e : (mRhs c h').bind (fun _ => k h h') g2 = none := by
        unfold M.bind mRhs
        simp only [hi, hd]
      rw [e] at q3; exact q3.elim
    | some d =>
      cases ht : tyD d with
      | none =>
        have e : (mRhs c h').bind (fun _ => k h h') g2 = none := by
          unfold M.bind mRhs
          simp only [hi, hd, ht]
        rw [e] at q3; exact q3.elim
      | some T =>
        have e : (mRhs c h').bind (fun _ => k h h') g2 = k h h' g2 := by
          unfold M.bind mRhs
          simp only [hi, hd, ht]
        rw [e] at q3
        exact ⟨⟨left, .inr (tyD_ok S2.sub (r2.rov S2 hd) ht)⟩, hk S2 P02 (.cons r1' (.cons r2 .nil)) q3⟩
theorem se_icmpA {c : Nat} {ms : List Md} {f : Fn} (ha : SO X W a ma) (hb : SO X W b mb) (hu : X.A.units < cLine) (hm : Meth X.K (ca X.K c) "__eq__" fa) (C : CodR X W fa (spF X.K ms f)) (hmk : behindInMarks .Eq b = false) :
    SE X W (.Compare a [.Eq] [b] pos) (mIopA c (fun h h' => mCallF ms f [h, h']) ma mb) :=
  PE_imp (pe_icmpA (op := .Eq) (fun _ _ => rfl) ha hb hu hm C hmk) fun σ H Q q => by
    obtain ⟨F, g, S, q⟩ := q
    exact iopA_ok (P := fun x y H2 => spF X.K ms f [x, y] H2 Q (WE W σ)) (fun S P r q => callF_ok S P r q) S q
end
end Cq

set_option Elab.async false
set_option linter.all false
set_option maxRecDepth 100000
set_option Elab.async false
set_option linter.all false
set_option maxRecDepth 100000
namespace L2
open PySem PySem.Spec PyProof.Rows
section
variable {prog : Program} {w : World} {A : Around} {E : Value → Shared → Prop}
abbrev tK (prog : Program) (w : World) : HeapKind prog w (List Key) := tupleKind (mixKind prog w)
theorem isT_ext {h h' : Heap} {S I b : Addr} {k : List Key} (x : (tK prog w).is h k b) (hb : b ≠ I) (e : ∀ b o, b ≠ I → h.get? b = some o → h'.get? b = some o) : (tK prog w).is h' k b := by
  obtain ⟨o, items, n, h1, h2, h3, h4⟩ := (show IsTupleKey (mixKind prog w) h k b from x)
  exact (show IsTupleKey (mixKind prog w) h' k b from ⟨o, items, n, e b o hb h1, h2, h3, h4⟩)
theorem DictOfH.ext {h h' : Heap} {S I : Addr} {xs : List (List Key × Addr × Value)} (hm : h.DictOfH (tK prog w) S xs) (hSI : S ≠ I) (hI : ∀ x ∈ xs, x.2.1 ≠ I) (k : ∀ b o, b ≠ I → h.get? b = some o → h'.get? b = some o) : h'.DictOfH (tK prog w) S xs := by
  obtain ⟨o, es, ep, ho, h1, h2, h3, h4, h5⟩ := hm
  exact ⟨o, es, ep, k S o hSI ho, h1, h2, h3, fun x hx => isT_ext (S := S) (h4 x hx) (hI x hx) k, h5⟩
end
end L2

set_option Elab.async false
set_option linter.all false
set_option maxRecDepth 100000
namespace Cq
open PySem PySem.Spec PyProof.Rows L2
section
variable {X : Cx} {W : WX} {pos : Pos} {σ : L2.St} {F H F0 H0 : Hp} {g g0 : Gm} {e : Expr}
def KR (K : Frag) (F : Hp) (kv : List (List Key × V)) (ds : List (List Key × D)) : Prop := Paired (fun p q => p.1 = q.1 ∧ Rep K F p.2 q.2) kv ds
theorem KR.keys {K : Frag} {kv : List (List Key × V)} {ds : List (List Key × D)} (r : KR K F kv ds) : kv.map (·.1) = ds.map (·.1) := by
  unfold KR at r
  induction r with
  | nil => rfl
  | cons h t ih => rw [List.map_cons, List.map_cons, ih, h.1]
theorem KR.vals {K : Frag} {kv : List (List Key × V)} {ds : List (List Key × D)} (r : KR K F kv ds) : Reps K F (kv.map (·.2)) (ds.map (·.2)) := by
  unfold KR at r
  induction r with
  | nil => exact .nil
  | cons h t ih => exact .cons h.2 ih
theorem KR.of {K : Frag} : ∀ {kv : List (List Key × V)} {ds : List (List Key × D)}, kv.map (·.1) = ds.map (·.1) → Reps K F (kv.map (·.2)) (ds.map (·.2)) → KR K F kv ds
  | [], [], _, _ => .nil
  | [], _ :: _, h, _ => by simp at h
  | _ :: _, [], h, _ => by simp at h
  | p :: kv, q :: ds, h, r => by
    rw [List.map_cons, List.map_cons] at h r
    injection h with h1 h2
    cases r with
    | cons r t => exact .cons ⟨h1, r⟩ (KR.of h2 t)
theorem KR.length {K : Frag} {kv : List (List Key × V)} {ds : List (List Key × D)} (r : KR K F kv ds) : kv.length = ds.length := Paired.length r
/-- d[k] = v on data -/
def putD (kvs : List (List Key × D)) (k : List Key) (v : D) : List (List Key × D) :=
  if (kvs.any fun kv => decide (kv.1 = k)) = true then kvs.map (fun kv => if kv.1 = k then (kv.1, v) else kv) else kvs ++ [(k, v)]
def getD (kvs : List (List Key × D)) (k : List Key) : Option D := (kvs.find? fun kv => decide (kv.1 = k)).map (·.2)
theorem KR.any {K : Frag} {kv : List (List Key × V)} {ds : List (List Key × D)} (r : KR K F kv ds) (k : List Key) : (kv.any fun kv => decide (kv.1 = k)) = ds.any fun kv => decide (kv.1 = k) := by
  unfold KR at r
  induction r with
  | nil => rfl
  | cons h t ih => rw [List.any_cons, List.any_cons, ih, h.1]
theorem KR.put {K : Frag} {kv : List (List Key × V)} {ds : List (List Key × D)} (r : KR K F kv ds) (k : List Key) {v : V} {d : D} (rv : Rep K F v d) : KR K F (putK kv k v) (putD ds k d) := by
  unfold putK putD
  rw [r.any k]
  by_cases q : (ds.any fun kv => decide (kv.1 = k)) = true
  · rw [if_pos q, if_pos q]
    unfold KR at r ⊢
    clear q
    induction r with
    | nil => exact .nil
    | @cons p q ps qs h t ih =>
      rw [List.map_cons, List.map_cons]
      refine .cons ?_ ih
      by_cases z : p.1 = k
      · rw [if_pos z, if_pos (h.1.symm.trans z)]; exact ⟨h.1, rv⟩
      · rw [if_neg z, if_neg (fun y => z (h.1.trans y))]; exact h
  · rw [if_neg q, if_neg q]; exact Paired.snoc r ⟨rfl, rv⟩
theorem KR.get {K : Frag} {kv : List (List Key × V)} {ds : List (List Key × D)} (r : KR K F kv ds) (k : List Key) {v0 : V} {d0 : D} (r0 : Rep K F v0 d0) : Rep K F ((valV kv k).getD v0) ((getD ds k).getD d0) := by
  unfold KR at r
  induction r with
  | nil => exact r0
  | @cons p q ps qs h t ih =>
    by_cases z : p.1 = k
    · have : getD (q :: qs) k = some q.2 := by simp [getD, List.find?_cons, h.1.symm.trans z]
      rw [valV_pos z, this]; exact h.2
    · have z' : ¬ q.1 = k := fun y => z (h.1.trans y)
      have : getD (q :: qs) k = getD qs k := by simp [getD, List.find?_cons, z']
      rw [valV_neg z, this]; exact ih
end
end Cq

set_option Elab.async false
set_option linter.all false
set_option maxRecDepth 100000
namespace Cq
open PySem PySem.Spec PyProof.Rows L2
section
variable {K : Frag} {σ : L2.St} {F H F' H' : Hp} {g g' : Gm} {a : Addr} {u u2 : HO} {i : Nat}
def NI (o : HO) : Prop := ∀ C d fv, o ≠ .ins C d fv
theorem foot_swap {b x : Addr} (n2 : NI u2) (f : Foot (upd H a u2) b x) : Foot H b x := by
  rcases f with f | ⟨C, dx0, fv, e, qf⟩
  · exact .inl f
  · by_cases z : b = a
    · subst z; rw [upd_same] at e; exact absurd (Option.some.inj e) (n2 _ _ _)
    · rw [upd_ne z] at e; exact .inr ⟨C, dx0, fv, e, qf⟩
theorem own_swap {x : Addr} (n2 : NI u2) (o : Own g σ (upd H a u2) x) : Own g σ H x := let ⟨i, d, b, c, e, f⟩ := o; ⟨i, d, b, c, e, foot_swap n2 f⟩
theorem own_hide {x : Addr} {d : D} (S : Sta K F g σ H) (hs : g[i]? = some (.ow d)) (ha : σ[i]? = some (some (V.ref a))) (o : Own (g.set i .un) σ H x) : Own g σ H x ∧ ¬ Foot H a x := by
  have hc : (g[i]?).bind Sl.cell = some d := by rw [hs]; rfl
  obtain ⟨j, e, b, c, q, f⟩ := o
  rcases gset_bind c with ⟨_, h⟩ | ⟨h1, h2⟩
  · cases h
  · exact ⟨⟨j, e, b, h2, q, f⟩, fun fa => S.inj j i e d b a x h1 h2 hc q ha f fa⟩
theorem own_reown {x : Addr} {d : D} (ha : σ[i]? = some (some (V.ref a))) (fl : ∀ x, Foot H a x → x = a) (o : Own (g.set i (.ow d)) σ H x) : Own g σ H x ∨ x = a := by
  obtain ⟨j, e, b, c, q, f⟩ := o
  rcases gset_bind c with ⟨z1, z2⟩ | ⟨h1, h2⟩
  · subst z1; rw [ha] at q; cases q; exact .inr (fl x f)
  · exact .inl ⟨j, e, b, h2, q, f⟩
/-- a cell is hidden and changed, something runs, the cell is as before again -/
theorem Stp.through {d : D} (S : Sta K F g σ H) (hs : g[i]? = some (.ow d)) (ha : σ[i]? = some (some (V.ref a))) (h : H a = some u) (fl : ∀ x, Foot H a x → x = a) (n1 : NI u) (n2 : NI u2)
    (P : Stp F (upd H a u2) (g.set i .un) σ F' H' g' σ) : Stp F H g σ F' (upd H' a u) (g'.set i (.ow d)) σ := by
  have hc : (g[i]?).bind Sl.cell = some d := by rw [hs]; rfl
  have own_a : Own g σ H a := ⟨i, d, a, hc, ha, .inl rfl⟩
  have back : ∀ x, Own (g.set i .un) σ (upd H a u2) x → Own g σ H x := fun x o => (own_hide S hs ha (own_swap n2 o)).1
  have fl3 : ∀ x, Foot (upd H' a u) a x → x = a := fun x f => foot_upd (o := u) n1 f
  refine ⟨P.fg, fun x hx => ?_, fun x o e nb n no => ?_, fun x o => ?_, fun j dj e => ?_, fun j dj e => ?_, fun b C dx fv e => ?_⟩
  · by_cases z : x = a
    · subst z; rw [upd_same]; exact fun y => nomatch y
    · rw [upd_ne z]; exact P.st x (by rw [upd_ne z]; exact hx)
  · have z : x ≠ a := fun z => by subst z; exact no own_a
    rw [upd_ne z]
    exact P.fr x o (by rw [upd_ne z]; exact e) nb n fun o' => no (back x o')
  · rcases own_reown ha fl3 o with o | o
    · rcases P.own x (own_swap n1 o) with o | o
      · exact .inl (back x o)
      · refine .inr ?_
        by_cases z : x = a
        · subst z; rw [upd_same] at o; cases o
        · rw [upd_ne z] at o; exact o
    · rw [o]; exact .inl own_a
  · rcases set_get e with ⟨h1, h2⟩ | ⟨h1, h2⟩
    · cases h2
    · obtain ⟨h3, h4⟩ := P.kro j dj h2
      rcases set_get h3 with ⟨h5, h6⟩ | ⟨h5, h6⟩
      · cases h6
      · exact ⟨h6, h4⟩
  · rcases set_get e with ⟨h1, h2⟩ | ⟨h1, h2⟩
    · cases h2
    · obtain ⟨⟨e', h3⟩, h4⟩ := P.kmb j dj h2
      rcases set_get h3 with ⟨h5, h6⟩ | ⟨h5, h6⟩
      · cases h6
      · exact ⟨⟨e', h6⟩, h4⟩
  · have z : b ≠ a := fun z => by subst z; rw [h] at e; exact n1 _ _ _ (Option.some.inj e)
    obtain ⟨fv', q, kq⟩ := P.ki b C dx fv (by rw [upd_ne z]; exact e)
    exact ⟨fv', by rw [upd_ne z]; exact q, kq⟩
end
end Cq

set_option Elab.async false
set_option linter.all false
set_option maxRecDepth 100000
set_option Elab.async false
set_option linter.all false
set_option maxRecDepth 100000
namespace Cq
open PySem PySem.Spec PyProof.Rows L2
section
variable {X : Cx} {W : WX} {pos p apos : Pos} {σ : L2.St} {F H F0 H0 : Hp} {g g0 : Gm} {a b e o : Expr} {es : List Expr} {ta tb : TE} {ma mb : M Hd} {fa : Addr} {k : Nat}
/-- what x != y asks of the class -/
structure NeK (K : Frag) (C : Addr) : Prop where
  ne : PySem.W.findIn K (.ref C) "__ne__" = some (some (.builtin "object.__ne__"))
  mro : PySem.W.mroIn K C (.type "object") = some true
end
end Cq

set_option Elab.async false
set_option linter.all false
set_option maxRecDepth 100000
set_option Elab.async false
set_option linter.all false
set_option maxRecDepth 100000
namespace Cq
open PySem PySem.Spec PyProof.Rows L2
section
variable {X : Cx} {W : WX} {pos p apos : Pos} {σ : L2.St} {F H F0 H0 : Hp} {g g0 : Gm} {a b e o : Expr} {es : List Expr} {ta tb : TE} {ma mb : M Hd} {fa : Addr} {k : Nat}
def SC (X : Cx) (W : WX) (op : CmpOp) (a b : Expr) (m : M D) : Prop := PC X op a b (tG X.K W (relE X.K) m)
theorem se_ofC {op : CmpOp} {m : M D} (h : SC X W op a b m) (hm : behindInMarks op b = false) : SE X W (.Compare a [op] [b] pos) m := pe_cmp h hm
theorem sb_ofC {op : CmpOp} {m : M D} (h : SC X W op a b m) (hm : behindInMarks op b = false) : SB X W (.Compare a [op] [b] pos) (m.bind dBool) := PT_imp (pt_cmp h hm) fun _ _ _ q => tTest_ok q
end
end Cq

set_option Elab.async false
set_option linter.all false
set_option maxRecDepth 100000
set_option Elab.async false
set_option linter.all false
set_option maxRecDepth 100000
set_option Elab.async false
set_option linter.all false
set_option maxRecDepth 100000
namespace Cq
open PySem PySem.Spec PyProof.Rows L2
section
variable {X : Cx} {W : WX} {pos p : Pos} {σ : L2.St} {F H F0 H0 : Hp} {g g0 : Gm} {a b : Expr} {ma mb : M Hd}
def KRk (K : Frag) (F : Hp) (kv : List (Key × V)) (ds : List (Key × D)) : Prop := Paired (fun p q => p.1 = q.1 ∧ Rep K F p.2 q.2) kv ds
theorem KRk.keys {K : Frag} {kv : List (Key × V)} {ds : List (Key × D)} (r : KRk K F kv ds) : kv.map (·.1) = ds.map (·.1) := by
  unfold KRk at r
  induction r with
  | nil => rfl
  | cons h t ih => rw [List.map_cons, List.map_cons, ih, h.1]
theorem KRk.vals {K : Frag} {kv : List (Key × V)} {ds : List (Key × D)} (r : KRk K F kv ds) : Reps K F (kv.map (·.2)) (ds.map (·.2)) := by
  unfold KRk at r
  induction r with
  | nil => exact .nil
  | cons h t ih => exact .cons h.2 ih
theorem KRk.of {K : Frag} : ∀ {kv : List (Key × V)} {ds : List (Key × D)}, kv.map (·.1) = ds.map (·.1) → Reps K F (kv.map (·.2)) (ds.map (·.2)) → KRk K F kv ds
  | [], [], _, _ => .nil
  | [], _ :: _, h, _ => by simp at h
  | _ :: _, [], h, _ => by simp at h
  | p :: kv, q :: ds, h, r => by
    rw [List.map_cons, List.map_cons] at h r
    injection h with h1 h2
    cases r with
    | cons r t => exact .cons ⟨h1, r⟩ (KRk.of h2 t)
theorem KRk.length {K : Frag} {kv : List (Key × V)} {ds : List (Key × D)} (r : KRk K F kv ds) : kv.length = ds.length := Paired.length r
/-- d[k] = v on data -/
def putDk (kvs : List (Key × D)) (k : Key) (v : D) : List (Key × D) :=
  if (kvs.any fun kv => decide (kv.1 = k)) = true then kvs.map (fun kv => if kv.1 = k then (kv.1, v) else kv) else kvs ++ [(k, v)]
def getDk (kvs : List (Key × D)) (k : Key) : Option D := (kvs.find? fun kv => decide (kv.1 = k)).map (·.2)
theorem KRk.any {K : Frag} {kv : List (Key × V)} {ds : List (Key × D)} (r : KRk K F kv ds) (k : Key) : (kv.any fun kv => decide (kv.1 = k)) = ds.any fun kv => decide (kv.1 = k) := by
  unfold KRk at r
  induction r with
  | nil => rfl
  | cons h t ih => rw [List.any_cons, List.any_cons, ih, h.1]
theorem KRk.put {K : Frag} {kv : List (Key × V)} {ds : List (Key × D)} (r : KRk K F kv ds) (k : Key) {v : V} {d : D} (rv : Rep K F v d) : KRk K F (putK kv k v) (putDk ds k d) := by
  unfold putK putDk
  rw [r.any k]
  by_cases q : (ds.any fun kv => decide (kv.1 = k)) = true
  · rw [if_pos q, if_pos q]
    unfold KRk at r ⊢
    clear q
    induction r with
    | nil => exact .nil
    | @cons p q ps qs h t ih =>
      rw [List.map_cons, List.map_cons]
      refine .cons ?_ ih
      by_cases z : p.1 = k
      · rw [if_pos z, if_pos (h.1.symm.trans z)]; exact ⟨h.1, rv⟩
      · rw [if_neg z, if_neg (fun y => z (h.1.trans y))]; exact h
  · rw [if_neg q, if_neg q]; exact Paired.snoc r ⟨rfl, rv⟩
theorem KRk.get {K : Frag} {kv : List (Key × V)} {ds : List (Key × D)} (r : KRk K F kv ds) (k : Key) {v0 : V} {d0 : D} (r0 : Rep K F v0 d0) : Rep K F ((valV kv k).getD v0) ((getDk ds k).getD d0) := by
  unfold KRk at r
  induction r with
  | nil => exact r0
  | @cons p q ps qs h t ih =>
    by_cases z : p.1 = k
    · have : getDk (q :: qs) k = some q.2 := by simp [getDk, List.find?_cons, h.1.symm.trans z]
      rw [valV_pos z, this]; exact h.2
    · have z' : ¬ q.1 = k := fun y => z (h.1.trans y)
      have : getDk (q :: qs) k = getDk qs k := by simp [getDk, List.find?_cons, z']
      rw [valV_neg z, this]; exact ih
theorem KRk.sm {K : Frag} {kv : List (Key × V)} {ds : List (Key × D)} (r : KRk K F kv ds) (k : Key) : (valV kv k).isSome = (getDk ds k).isSome := by
  unfold KRk at r
  induction r with
  | nil => rfl
  | @cons p q ps qs h t ih =>
    by_cases z : p.1 = k
    · have : getDk (q :: qs) k = some q.2 := by simp [getDk, List.find?_cons, h.1.symm.trans z]
      rw [valV_pos z, this]; rfl
    · have z' : ¬ q.1 = k := fun y => z (h.1.trans y)
      have : getDk (q :: qs) k = getDk qs k := by simp [getDk, List.find?_cons, z']
      rw [valV_neg z, this]; exact ih
theorem KRk.at {K : Frag} {kv : List (Key × V)} {ds : List (Key × D)} (r : KRk K F kv ds) {k : Key} {d : D} (h : getDk ds k = some d) : ∃ v, valV kv k = some v ∧ Rep K F v d := by
  unfold KRk at r
  induction r with
  | nil => cases h
  | @cons p q ps qs h' t ih =>
    by_cases z : p.1 = k
    · have : getDk (q :: qs) k = some q.2 := by simp [getDk, List.find?_cons, h'.1.symm.trans z]
      rw [this] at h; cases h
      exact ⟨p.2, valV_pos z, h'.2⟩
    · have z' : ¬ q.1 = k := fun y => z (h'.1.trans y)
      have : getDk (q :: qs) k = getDk qs k := by simp [getDk, List.find?_cons, z']
      rw [this] at h
      obtain ⟨v, e1, e2⟩ := ih h
      exact ⟨v, by rw [valV_neg z]; exact e1, e2⟩
theorem RoV.dik {K : Frag} {v : V} {ds : List (Key × D)} (s : Sub F H) (r : RoV K F H v (.dik ds)) : ∃ a kv, v = .ref a ∧ H a = some (.dK kv) ∧ KRk K F kv ds := by
  rcases r with r | ⟨a, rfl, ⟨kv, h, h2, h3⟩, _⟩
  · cases r with
    | dik h h2 h3 => exact ⟨_, _, rfl, s _ _ h, KRk.of h2 h3⟩
  · exact ⟨_, _, rfl, h, KRk.of h2 h3⟩
end
end Cq

set_option Elab.async false
set_option linter.all false
set_option maxRecDepth 100000
namespace Cq
open PySem PySem.Spec PyProof.Rows L2
section
variable {X : Cx} {W : WX} {pos p : Pos} {σ : L2.St} {F H F0 H0 : Hp} {g g0 : Gm} {e : Expr} {m : M D}
mutual
def ofPy : PyData → D
  | .none => .non
  | .bool b => .bl b
  | .int i => .int i
  | .str x => .str x
  | .tuple xs => .tup (ofPys xs)
  | .list xs => .lst (ofPys xs)
  | .dict _ => .non
def ofPys : List PyData → List D
  | [] => []
  | x :: xs => ofPy x :: ofPys xs
end
mutual
theorem ofPy_py : ∀ {d : D} {p : PyData}, d.py = some p → d = ofPy p
  | .non, _, h => by simp only [D.py] at h; cases h; rfl
  | .bl b, _, h => by simp only [D.py] at h; cases h; rfl
  | .int i, _, h => by simp only [D.py] at h; cases h; rfl
  | .str x, _, h => by simp only [D.py] at h; cases h; rfl
  | .tup xs, _, h => by
    simp only [D.py] at h
    cases q : pyL xs with
    | none => rw [q] at h; cases h
    | some ps => rw [q] at h; cases h; simp only [ofPy, ← ofPys_py q]
  | .lst xs, _, h => by
    simp only [D.py] at h
    cases q : pyL xs with
    | none => rw [q] at h; cases h
    | some ps => rw [q] at h; cases h; simp only [ofPy, ← ofPys_py q]
  | .dik _, _, h => by simp [D.py] at h
  | .dit _, _, h => by simp [D.py] at h
  | .ins _ _, _, h => by simp [D.py] at h
  | .scr _, _, h => by simp [D.py] at h
  | .glo _, _, h => by simp [D.py] at h
  | .ktp _, _, h => by simp [D.py] at h
theorem ofPys_py : ∀ {ds : List D} {ps : List PyData}, pyL ds = some ps → ds = ofPys ps
  | [], _, h => by simp only [pyL] at h; cases h; rfl
  | d :: ds, _, h => by
    simp only [pyL] at h
    cases q : d.py with
    | none => rw [q] at h; cases h
    | some p => cases q2 : pyL ds with
      | none => rw [q, q2] at h; cases h
      | some ps => rw [q, q2] at h; cases h; rw [ofPys, ← ofPy_py q, ← ofPys_py q2]
end
end
end Cq

set_option Elab.async false
set_option linter.all false
set_option maxRecDepth 100000
set_option maxHeartbeats 2000000
namespace Cq
open PySem PySem.Spec PyProof.Rows L2
def IsX : Bool → Heap → Addr → Array Value → Prop
  | true, h, a, xs => h.IsTuple a xs
  | false, h, a, xs => h.IsList a xs
def ItX : Bool → Heap → Addr → Addr → Nat → Prop
  | true, h, i, l, n => h.IsTupleIter i l n
  | false, h, i, l, n => h.IsListIter i l n
theorem IsX.lt {k : Bool} {h : Heap} {a : Addr} {xs : Array Value} (p : IsX k h a xs) : a < h.objs.size := by
  cases k with
  | true => obtain ⟨o, e, _⟩ := (show h.IsTuple a xs from p); exact Heap.lt_size e
  | false => obtain ⟨o, e, _⟩ := (show h.IsList a xs from p); exact Heap.lt_size e
theorem ItX.obj {k : Bool} {h : Heap} {i l : Addr} {n : Nat} (p : ItX k h i l n) : ∃ o, h.get? i = some o ∧ ∀ v, o.data ≠ .cell v := by
  cases k with
  | true => obtain ⟨o, e, _, d⟩ := (show h.IsTupleIter i l n from p); exact ⟨o, e, fun v q => by rw [d] at q; cases q⟩
  | false => obtain ⟨o, e, _, d⟩ := (show h.IsListIter i l n from p); exact ⟨o, e, fun v q => by rw [d] at q; cases q⟩
theorem ItX.at {k : Bool} {h h' : Heap} {i l : Addr} {n : Nat} (p : ItX k h i l n) (e : ∀ o, h.get? i = some o → h'.get? i = some o) : ItX k h' i l n := by
  cases k with
  | true => exact Heap.IsTupleIter.at (show h.IsTupleIter i l n from p) e
  | false => exact Heap.IsListIter.at (show h.IsListIter i l n from p) e
end Cq

set_option Elab.async false
set_option linter.all false
set_option maxRecDepth 100000
set_option Elab.async false
set_option linter.all false
set_option maxRecDepth 100000
set_option Elab.async false
set_option linter.all false
set_option maxRecDepth 100000
set_option maxHeartbeats 1000000
namespace Cq
open PySem PySem.Spec PyProof.Rows L2
def cd (ns : List Int) : Int := TS.code 100 ns
end Cq

set_option Elab.async false
set_option linter.all false
set_option maxRecDepth 100000
set_option maxHeartbeats 1000000
set_option Elab.async false
set_option linter.all false
set_option maxRecDepth 100000
set_option Elab.async false
set_option linter.all false
set_option maxRecDepth 100000
set_option maxHeartbeats 1000000
set_option Elab.async false
set_option linter.all false
set_option maxRecDepth 100000
set_option maxHeartbeats 1000000
set_option Elab.async false
set_option linter.all false
set_option maxRecDepth 100000
set_option maxHeartbeats 2000000
namespace Cq
open PySem PySem.Spec PyProof.Rows L2
section
variable {prog : Program} {w : World} {A : Around} {E : Value → Shared → Prop} {s : Shared}
theorem IsX.at {k : Bool} {h h' : Heap} {a : Addr} {xs : Array Value} (p : IsX k h a xs) (e : ∀ o, h.get? a = some o → h'.get? a = some o) : IsX k h' a xs := by
  cases k with
  | true => exact Heap.IsTuple.at (show h.IsTuple a xs from p) e
  | false => exact Heap.IsList.at (show h.IsList a xs from p) e
end
theorem IsX.obj {k : Bool} {h : Heap} {a : Addr} {xs : Array Value} (p : IsX k h a xs) : ∃ o, h.get? a = some o := by
  cases k with
  | true => obtain ⟨o, e, _⟩ := (show h.IsTuple a xs from p); exact ⟨o, e⟩
  | false => obtain ⟨o, e, _⟩ := (show h.IsList a xs from p); exact ⟨o, e⟩
end Cq

set_option Elab.async false
set_option linter.all false
set_option maxRecDepth 100000
set_option Elab.async false
set_option linter.all false
set_option maxRecDepth 100000
set_option maxHeartbeats 4000000
namespace Cq.Sp
open PySem PySem.Spec PyProof.Rows L2 Cq
def m_is_kind : M Fl :=
  ((mAndD (mIsi [0, 1] .str (mNm 0)) (mOp2 dIn (mNm 0) (mVa (M.ret (.tup ((["A", "B", "C"] : List Str).map .str)))))).bind fun d => M.ret (.rt d))
def f_is_kind : Fn := runDef [.im] 1 m_is_kind
def m_is_integer : M Fl :=
  ((mAndD (mIsi [0, 1] .int (mNm 0)) (mNotD (mIsi [0, 1] .bool (mNm 0)))).bind fun d => M.ret (.rt d))
def f_is_integer : Fn := runDef [.im] 1 m_is_integer
def m_is_between : M Fl :=
  ((mAndD ((mCons (mNm 0) (M.ret [])).bind (mCallF [.im] f_is_integer)) (mChain (dI fun i j => decide (i ≤ j)) (dI fun i j => decide (i ≤ j)) (mNm 1) (mNm 0) (mNm 2))).bind fun d => M.ret (.rt d))
def f_is_between : Fn := runDef [.im, .im, .im] 3 m_is_between
def m_is_atom : M Fl :=
  (mSeq ((mOrB (((mIsi [0, 1] .tuple (mNm 0)).bind dBool).bind fun c => M.ret (!c)) (mOrB ((mOp2 dNe (mVa (mCall dLen (mCons (mNm 0) (M.ret [])))) (mVa (M.ret (.int 3)))).bind dBool) ((((mCons (mVa (mOp2 dIx (mNm 0) (mVa (M.ret (.int 0))))) (M.ret [])).bind (mCallF [.im] f_is_kind)).bind dBool).bind fun c => M.ret (!c)))).bind fun k => if k = true then ((M.ret (.bl false)).bind fun d => M.ret (.rt d)) else (M.ret .nx))
    ((mAndD ((mCons (mVa (mOp2 dIx (mNm 0) (mVa (M.ret (.int 1))))) (mCons (mVa (M.ret (.int 0))) (mCons (mVa (M.ret (.int 9))) (M.ret [])))).bind (mCallF [.im, .im, .im] f_is_between)) ((mCons (mVa (mOp2 dIx (mNm 0) (mVa (M.ret (.int 2))))) (mCons (mVa (M.ret (.int 0))) (mCons (mVa (M.ret (.int 9))) (M.ret [])))).bind (mCallF [.im, .im, .im] f_is_between))).bind fun d => M.ret (.rt d)))
def f_is_atom : Fn := runDef [.im] 1 m_is_atom
def e_are_atoms_1 : M D :=
  ((mCons (mNm 1) (M.ret [])).bind (mCallF [.im] f_is_atom))
def m_are_atoms : M Fl :=
  ((mAndD (mChain (dI fun i j => decide (i ≤ j)) (dI fun i j => decide (i ≤ j)) (mVa (M.ret (.int 1))) (mVa (mCall dLen (mCons (mNm 0) (M.ret [])))) (mVa (M.ret (.int 4)))) (mCall dAll (mCons (mVa (mLc (some 0) (mItN 0) [1] (tgNm 1) (M.ret true) e_are_atoms_1)) (M.ret [])))).bind fun d => M.ret (.rt d))
def f_are_atoms : Fn := runDef [.im] 2 m_are_atoms
def m_Question___init : M Fl :=
  (mSeq (((((mCons (mNm 1) (M.ret [])).bind (mCallF [.im] f_are_atoms)).bind dBool).bind fun c => M.ret (!c)).bind fun k => if k = true then (mRaise 16) else (M.ret .nx))
    (mStF [1] 0 0 (mFz 1)))
def f_Question___init : Fn := runDef [.mu, .im] 2 m_Question___init
def m_atom_of_word : M Fl :=
  (mSeq ((mOrB ((mOp2 dNe (mVa (mCall dLen (mCons (mNm 0) (M.ret [])))) (mVa (M.ret (.int 3)))).bind dBool) (mOrB ((mOp2 dNotIn (mVa (mOp2 dIx (mNm 0) (mVa (M.ret (.int 1))))) (mVa (M.ret (.str "0123456789")))).bind dBool) ((mOp2 dNotIn (mVa (mOp2 dIx (mNm 0) (mVa (M.ret (.int 2))))) (mVa (M.ret (.str "0123456789")))).bind dBool))).bind fun k => if k = true then ((mTup (M.ret [])).bind fun d => M.ret (.rt d)) else (M.ret .nx))
    ((mTup (mCons (mVa (mOp2 dIx (mNm 0) (mVa (M.ret (.int 0))))) (mCons (mVa (mCall dInt (mCons (mVa (mOp2 dIx (mNm 0) (mVa (M.ret (.int 1))))) (M.ret [])))) (mCons (mVa (mCall dInt (mCons (mVa (mOp2 dIx (mNm 0) (mVa (M.ret (.int 2))))) (M.ret [])))) (M.ret []))))).bind fun d => M.ret (.rt d)))
def f_atom_of_word : Fn := runDef [.im] 1 m_atom_of_word
def i_Question_read_1 : M (List D) :=
  (mIt (mMtK "str" fSplit (mNm 1) (mCons (mVa (M.ret (.str " "))) (M.ret []))))
def e_Question_read_2 : M D :=
  ((mCons (mNm 3) (M.ret [])).bind (mCallF [.im] f_atom_of_word))
def m_Question_read : M Fl :=
  (mSeq ((((mIsi [0, 1] .str (mNm 1)).bind dBool).bind fun c => M.ret (!c)).bind fun k => if k = true then (mRaise 14) else (M.ret .nx))
    (mSeq (mSetN 2 (mLc none i_Question_read_1 [3] (tgNm 3) (M.ret true) e_Question_read_2))
    (mSeq (((((mCons (mNm 2) (M.ret [])).bind (mCallF [.im] f_are_atoms)).bind dBool).bind fun c => M.ret (!c)).bind fun k => if k = true then (mRaise 14) else (M.ret .nx))
    (((mGlo 0 1).bind fun _ => mMkS 1 f_Question___init (mFz 2)).bind fun d => M.ret (.rt d)))))
def f_Question_read : Fn := runDef [.im, .im] 4 m_Question_read
def m_Question_atoms : M Fl :=
  (((mNm 0).bind (mFld [1] 0)).bind fun d => M.ret (.rt d))
def f_Question_atoms : Fn := runDef [.im] 1 m_Question_atoms
def e_variables_of_1 : M D :=
  (mOp2 dIx (mNm 1) (mVa (M.ret (.int 1))))
def e_variables_of_2 : M D :=
  (mOp2 dIx (mNm 1) (mVa (M.ret (.int 2))))
def m_variables_of : M Fl :=
  ((mCall dTuple (mCons (mVa ((mVa (mOp2 dAdd (mVa (mLc (some 0) (mItN 0) [1] (tgNm 1) (M.ret true) e_variables_of_1)) (mVa (mLc (some 0) (mItN 0) [1] (tgNm 1) (M.ret true) e_variables_of_2)))).bind fun h => mFs iSortSet [h])) (M.ret []))).bind fun d => M.ret (.rt d))
def f_variables_of : Fn := runDef [.im] 2 m_variables_of
def i_Question_text_1 : M (List D) :=
  (mIt ((mNm 0).bind (mFld [1] 0)))
def e_Question_text_2 : M D :=
  (mJ [(mOp1 dFmt (mNm 1)), (mOp1 dFmt (mNm 2)), (mOp1 dFmt (mNm 3))] Str.empty)
def m_Question_text : M Fl :=
  ((mMtK "str" fJoin (mVa (M.ret (.str " "))) (mCons (mVa (mLc none i_Question_text_1 [1, 2, 3] (tgTup 3 (tgCons (tgNm 1) (tgCons (tgNm 2) (tgCons (tgNm 3) tgNil)))) (M.ret true) e_Question_text_2)) (M.ret []))).bind fun d => M.ret (.rt d))
def f_Question_text : Fn := runDef [.im] 4 m_Question_text
def m_Question___eq : M Fl :=
  ((mAndD (mIsi [0, 1] (.cls 1) (mNm 1)) (mOp2 dEq (mVa (mCall dSorted (mCons (mVa ((mNm 0).bind (mFld [1] 0))) (M.ret [])))) (mVa (mCall dSorted (mCons (mVa ((mNm 1).bind (mFld [1] 0))) (M.ret [])))))).bind fun d => M.ret (.rt d))
def f_Question___eq : Fn := runDef [.im, .im] 2 m_Question___eq
def m_Question___repr : M Fl :=
  ((mJ [(M.ret (.str "Question(")), (mOp1 dFmt (mVa (mCall dLen (mCons (mVa ((mNm 0).bind (mFld [1] 0))) (M.ret []))))), (M.ret (.str " atoms, ")), (mOp1 dFmt (mVa (mCall dLen (mCons (mVa ((mCons (mVa ((mNm 0).bind (mFld [1] 0))) (M.ret [])).bind (mCallF [.im] f_variables_of))) (M.ret []))))), (M.ret (.str " variables)"))] Str.empty).bind fun d => M.ret (.rt d))
def f_Question___repr : Fn := runDef [.im] 1 m_Question___repr
end Cq.Sp

set_option Elab.async false
set_option linter.all false
set_option maxRecDepth 100000
set_option maxHeartbeats 4000000
namespace Cq.S6
open PySem PySem.Spec PyProof.Rows L2 Cq Cq.Sp
def m_x_law_source : M Fl :=
  ((mLst (mCons (mVa (mCall dMax2 (mCons (mVa (M.ret (.int 0))) (mCons (mVa (mOp2 dSub (mNm 0) (mVa (mOp2 dPow (mVa (M.ret (.int 10))) (mVa (M.ret (.int 18))))))) (M.ret []))))) (mCons (mVa (mOp2 dAdd (mVa (mOp2 dMod (mNm 0) (mVa (M.ret (.int 2147483629))))) (mVa (M.ret (.int 1))))) (mCons (mVa (M.ret (.int 0))) (M.ret []))))).bind fun d => M.ret (.rn d))
def f_x_law_source : Fn := runDef [.im] 1 m_x_law_source
def m_x_law_cell : M Fl :=
  (mSeq (((mOp2 (dI fun i j => decide (i < j)) (mNm 1) (mVa (mCall dLen (mCons (mNm 0) (M.ret []))))).bind dBool).bind fun k => if k = true then ((mOp2 dIx (mNm 0) (mNm 1)).bind fun d => M.ret (.rt d)) else (M.ret .nx))
    ((M.ret (.int 0)).bind fun d => M.ret (.rt d)))
def f_x_law_cell : Fn := runDef [.im, .im] 2 m_x_law_cell
def m_x_law_draw : M Fl :=
  (mSeq (((mOp2 (dI fun i j => decide (j < i)) (mVa (mOp2 dIx (mNm 0) (mVa (M.ret (.int 0))))) (mVa (M.ret (.int 0)))).bind dBool).bind fun k => if k = true then (mSeq (mSet 2 (mOp2 dMod (mVa (mOp2 dIx (mNm 0) (mVa (M.ret (.int 0))))) (mNm 1)))
    (mSeq (mSetIx "list" 0 fSetL (mOp2 dDiv (mVa (mOp2 dIx (mNm 0) (mVa (M.ret (.int 0))))) (mNm 1)) (M.ret (.int 0)))
    ((mFz 2).bind fun d => M.ret (.rt d)))) else (M.ret .nx))
    (mSeq (mSetIx "list" 0 fSetL (mOp2 dAdd (mVa (mOp2 dIx (mNm 0) (mVa (M.ret (.int 2))))) (mVa (M.ret (.int 1)))) (M.ret (.int 2)))
    (mSeq (mSetIx "list" 0 fSetL (mOp2 dMod (mVa (mOp2 dAdd (mVa (mOp2 dAdd (mVa (mOp2 dMul (mVa (mOp2 dIx (mNm 0) (mVa (M.ret (.int 1))))) (mVa (M.ret (.int 48271))))) (mVa (mOp2 dMul (mVa (M.ret (.int 1009))) (mVa (mOp2 dIx (mNm 0) (mVa (M.ret (.int 2))))))))) (mVa (M.ret (.int 7))))) (mVa (M.ret (.int 2147483647)))) (M.ret (.int 1)))
    (mSeq (mSet 3 (mOp2 dMod (mVa (mOp2 dAdd (mVa (mOp2 dAdd (mVa (mOp2 dMul (mVa (mOp2 dIx (mNm 0) (mVa (M.ret (.int 1))))) (mVa (mOp2 dIx (mNm 0) (mVa (M.ret (.int 1))))))) (mVa (mOp2 dMul (mVa (M.ret (.int 69621))) (mVa (mOp2 dIx (mNm 0) (mVa (M.ret (.int 1))))))))) (mVa (M.ret (.int 11))))) (mVa (M.ret (.int 2147483629)))))
    (mSeq (mSet 3 (mOp2 dMod (mVa (mOp2 dAdd (mVa (mOp2 dMul (mNm 3) (mNm 3))) (mVa (mOp2 dMul (mVa (M.ret (.int 40014))) (mNm 3))))) (mVa (M.ret (.int 2147483587)))))
    ((mOp2 dMod (mVa (mOp2 dDiv (mNm 3) (mVa (M.ret (.int 16))))) (mNm 1)).bind fun d => M.ret (.rt d)))))))
def f_x_law_draw : Fn := runDef [.mu, .im] 4 m_x_law_draw
def m_x_law_choose : M Fl :=
  ((mOp2 dIx (mNm 1) (mVa ((mCons (mNm 0) (mCons (mVa (mCall dLen (mCons (mNm 1) (M.ret [])))) (M.ret []))).bind (mCallF [.mu, .im] f_x_law_draw)))).bind fun d => M.ret (.rt d))
def f_x_law_choose : Fn := runDef [.mu, .ro] 2 m_x_law_choose
def i_x_law_some_1 : M (List D) :=
  (mSrc rng1 (mCons (mVa (mOp2 dAdd (mVa (M.ret (.int 1))) (mVa ((mCons (mNm 0) (mCons (mNm 1) (M.ret []))).bind (mCallF [.mu, .im] f_x_law_draw))))) (M.ret [])))
def b_x_law_some_2 : M Fl :=
  (mSeq (mSet 6 (mTup (mCons (mVa ((mCons (mNm 0) (mCons (mNm 3) (M.ret []))).bind (mCallF [.mu, .ro] f_x_law_choose))) (mCons (mVa ((mCons (mNm 0) (mCons (mNm 2) (M.ret []))).bind (mCallF [.mu, .ro] f_x_law_choose))) (mCons (mVa ((mCons (mNm 0) (mCons (mNm 2) (M.ret []))).bind (mCallF [.mu, .ro] f_x_law_choose))) (M.ret []))))))
    (mSeq ((mAndB ((mOp2 dNe (mNm 4) (mVa (mLst (M.ret [])))).bind dBool) ((mOp2 dEq (mVa ((mCons (mNm 0) (mCons (mVa (M.ret (.int 5))) (M.ret []))).bind (mCallF [.mu, .im] f_x_law_draw))) (mVa (M.ret (.int 0)))).bind dBool)).bind fun k => if k = true then (mSet 6 ((mCons (mNm 0) (mCons (mNm 4) (M.ret []))).bind (mCallF [.mu, .ro] f_x_law_choose))) else (M.ret .nx))
    (mSeq ((mAndB ((mOp2 dNe (mNm 4) (mVa (mLst (M.ret [])))).bind dBool) ((mOp2 dEq (mVa ((mCons (mNm 0) (mCons (mVa (M.ret (.int 4))) (M.ret []))).bind (mCallF [.mu, .im] f_x_law_draw))) (mVa (M.ret (.int 0)))).bind dBool)).bind fun k => if k = true then (mSet 6 (mTup (mCons (mVa (mOp2 dIx (mNm 6) (mVa (M.ret (.int 0))))) (mCons (mVa (mOp2 dIx (mVa (mOp2 dIx (mNm 4) (mVa (mOp1 dNeg (mVa (M.ret (.int 1))))))) (mVa (M.ret (.int 2))))) (mCons (mVa (mOp2 dIx (mNm 6) (mVa (M.ret (.int 2))))) (M.ret [])))))) else (M.ret .nx))
    ((mWm "list" 4 fAppend (mCons (mNm 6) (M.ret []))).bind fun _ => M.ret .nx))))
def m_x_law_some : M Fl :=
  (mSeq (mSet 2 (mLst (mCons (mVa (mTup (mCons (mVa (M.ret (.int 0))) (M.ret [])))) (mCons (mVa (mTup (mCons (mVa (M.ret (.int 0))) (mCons (mVa (M.ret (.int 1))) (M.ret []))))) (mCons (mVa (mTup (mCons (mVa (M.ret (.int 0))) (mCons (mVa (M.ret (.int 1))) (mCons (mVa (M.ret (.int 2))) (M.ret [])))))) (mCons (mVa (mTup (mCons (mVa (M.ret (.int 9))) (mCons (mVa (M.ret (.int 4))) (M.ret []))))) (mCons (mVa (mTup (mCons (mVa (M.ret (.int 3))) (mCons (mVa (M.ret (.int 0))) (mCons (mVa (M.ret (.int 7))) (M.ret [])))))) (mCons (mVa (mTup (mCons (mVa (M.ret (.int 0))) (mCons (mVa (M.ret (.int 1))) (mCons (mVa (M.ret (.int 2))) (mCons (mVa (M.ret (.int 3))) (M.ret []))))))) (mCons (mVa (mTup (mCons (mVa (M.ret (.int 2))) (mCons (mVa (M.ret (.int 3))) (mCons (mVa (M.ret (.int 5))) (mCons (mVa (M.ret (.int 8))) (mCons (mVa (M.ret (.int 9))) (M.ret [])))))))) (mCons (mVa (mTup (mCons (mVa (M.ret (.int 0))) (mCons (mVa (M.ret (.int 1))) (mCons (mVa (M.ret (.int 2))) (mCons (mVa (M.ret (.int 3))) (mCons (mVa (M.ret (.int 4))) (mCons (mVa (M.ret (.int 5))) (mCons (mVa (M.ret (.int 6))) (mCons (mVa (M.ret (.int 7))) (mCons (mVa (M.ret (.int 8))) (mCons (mVa (M.ret (.int 9))) (M.ret []))))))))))))) (M.ret [])))))))))))
    (mSeq (mPar 2 3 (mCons (mVa ((mCons (mNm 0) (mCons (mNm 2) (M.ret []))).bind (mCallF [.mu, .ro] f_x_law_choose))) (mCons (mVa ((mCons (mNm 0) (mCons (mVa (mLst (mCons (mVa (M.ret (.str "A"))) (mCons (mVa (M.ret (.str "A"))) (mCons (mVa (M.ret (.str "AB"))) (mCons (mVa (M.ret (.str "CAB"))) (mCons (mVa (M.ret (.str "CB"))) (M.ret [])))))))) (M.ret []))).bind (mCallF [.mu, .ro] f_x_law_choose))) (M.ret []))))
    (mSeq (mSetN 4 (mLst (M.ret [])))
    (mSeq (mFor none i_x_law_some_1 (tgNm 5) b_x_law_some_2)
    ((mFz 4).bind fun d => M.ret (.rt d))))))
def f_x_law_some : Fn := runDef [.mu, .im] 7 m_x_law_some
def e_x_law_words_1 : M D :=
  (mOp2 dAdd (mVa (mOp2 dAdd (mNm 1) (mVa (mCall dStr (mCons (mNm 2) (M.ret [])))))) (mVa (mCall dStr (mCons (mNm 3) (M.ret [])))))
def m_x_law_words : M Fl :=
  ((mMtK "str" fJoin (mVa (M.ret (.str " "))) (mCons (mVa (mLc (some 0) (mItN 0) [1, 2, 3] (tgTup 3 (tgCons (tgNm 1) (tgCons (tgNm 2) (tgCons (tgNm 3) tgNil)))) (M.ret true) e_x_law_words_1)) (M.ret []))).bind fun d => M.ret (.rt d))
def f_x_law_words : Fn := runDef [.im] 4 m_x_law_words
def m_x_law_is_equal : M Fl :=
  ((mOp2 dEq (mVa (mCall dReprD (mCons (mNm 0) (M.ret [])))) (mVa (mCall dReprD (mCons (mNm 1) (M.ret []))))).bind fun d => M.ret (.rt d))
def f_x_law_is_equal : Fn := runDef [.im, .im] 2 m_x_law_is_equal
def c_x_law_names_1 : M Bool :=
  ((mOp2 dIn (mNm 1) (mVa (mSl (mNm 2) ((M.ret (.int 1)).bind dSome) (M.ret none)))).bind dBool)
def e_x_law_names_2 : M D :=
  (M.ret (.int 1))
def i_x_law_names_3 : M (List D) :=
  (mSrc rng1 (mCons (mVa (M.ret (.int 10))) (M.ret [])))
def c_x_law_names_4 : M Bool :=
  ((mOp2 dNe (mVa (mLc (some 0) (mItN 0) [2] (tgNm 2) c_x_law_names_1 e_x_law_names_2)) (mVa (mLst (M.ret [])))).bind dBool)
def m_x_law_names : M Fl :=
  ((mLc none i_x_law_names_3 [1] (tgNm 1) c_x_law_names_4 (mFz 1)).bind fun d => M.ret (.rt d))
def f_x_law_names : Fn := runDef [.im] 3 m_x_law_names
def b_x_law_read_1 : M Fl :=
  ((mOrB ((mOp2 dNe (mVa (mCall dLen (mCons (mNm 2) (M.ret [])))) (mVa (M.ret (.int 3)))).bind dBool) (mOrB ((mOp2 dNotIn (mVa (mOp2 dIx (mNm 2) (mVa (M.ret (.int 0))))) (mVa (M.ret (.str "CAB")))).bind dBool) (mOrB ((mOp2 dNotIn (mVa (mOp2 dIx (mNm 2) (mVa (M.ret (.int 1))))) (mVa (M.ret (.str "0123456789")))).bind dBool) ((mOp2 dNotIn (mVa (mOp2 dIx (mNm 2) (mVa (M.ret (.int 2))))) (mVa (M.ret (.str "0123456789")))).bind dBool)))).bind fun k => if k = true then ((M.ret .non).bind fun d => M.ret (.rt d)) else (M.ret .nx))
def e_x_law_read_2 : M D :=
  (mTup (mCons (mVa (mOp2 dIx (mNm 2) (mVa (M.ret (.int 0))))) (mCons (mVa (mCall dInt (mCons (mVa (mOp2 dIx (mNm 2) (mVa (M.ret (.int 1))))) (M.ret [])))) (mCons (mVa (mCall dInt (mCons (mVa (mOp2 dIx (mNm 2) (mVa (M.ret (.int 2))))) (M.ret [])))) (M.ret [])))))
def m_x_law_read : M Fl :=
  (mSeq ((((mIsi [0, 1] .str (mNm 0)).bind dBool).bind fun c => M.ret (!c)).bind fun k => if k = true then ((M.ret .non).bind fun d => M.ret (.rt d)) else (M.ret .nx))
    (mSeq (mSet 1 (mMtK "str" fSplit (mNm 0) (mCons (mVa (M.ret (.str " "))) (M.ret []))))
    (mSeq (((mOp2 (dI fun i j => decide (j < i)) (mVa (mCall dLen (mCons (mNm 1) (M.ret [])))) (mVa (M.ret (.int 4)))).bind dBool).bind fun k => if k = true then ((M.ret .non).bind fun d => M.ret (.rt d)) else (M.ret .nx))
    (mSeq (mFor (some 1) (mItN 1) (tgNm 2) b_x_law_read_1)
    ((mCall dTuple (mCons (mVa (mLc (some 1) (mItN 1) [2] (tgNm 2) (M.ret true) e_x_law_read_2)) (M.ret []))).bind fun d => M.ret (.rt d))))))
def f_x_law_read : Fn := runDef [.im] 3 m_x_law_read
def i_x_law_near_1 : M (List D) :=
  (mIt (mSl (mNm 10) ((M.ret (.int 1)).bind dSome) (M.ret none)))
def e_x_law_near_2 : M D :=
  (mIf ((mOp2 dEq (mNm 9) (mNm 7)).bind dBool) (mFz 8) (mFz 9))
def e_x_law_near_3 : M D :=
  (mOp2 dAdd (mVa (mTup (mCons (mVa (mOp2 dIx (mNm 10) (mVa (M.ret (.int 0))))) (M.ret [])))) (mVa (mCall dTuple (mCons (mVa (mLc none i_x_law_near_1 [9] (tgNm 9) (M.ret true) e_x_law_near_2)) (M.ret [])))))
def b_x_law_near_4 : M Fl :=
  (((mOp2 dEq (mNm 4) (mVa (M.ret (.int 5)))).bind dBool).bind fun k => if k = true then (mSetIx "list" 2 fSetL (mTup (mCons (mVa ((mCons (mNm 0) (mCons (mVa (M.ret (.str "CAB"))) (M.ret []))).bind (mCallF [.mu, .ro] f_x_law_choose))) (mCons (mVa (mOp2 dIx (mVa (mOp2 dIx (mNm 2) (mNm 5))) (mVa (M.ret (.int 1))))) (mCons (mVa (mOp2 dIx (mVa (mOp2 dIx (mNm 2) (mNm 5))) (mVa (M.ret (.int 2))))) (M.ret []))))) (mFz 5)) else (M.ret .nx))
def b_x_law_near_5 : M Fl :=
  (((mOp2 dEq (mNm 4) (mVa (M.ret (.int 4)))).bind dBool).bind fun k => if k = true then (mSetIx "list" 2 fSetL (mOp2 dIx (mNm 2) (mVa (M.ret (.int 0)))) (mFz 5)) else b_x_law_near_4)
def b_x_law_near_6 : M Fl :=
  (((mOp2 dEq (mNm 4) (mVa (M.ret (.int 3)))).bind dBool).bind fun k => if k = true then (mSetIx "list" 2 fSetL (mTup (mCons (mVa (mOp2 dIx (mVa (mOp2 dIx (mNm 2) (mNm 5))) (mVa (M.ret (.int 0))))) (mCons (mVa (mOp2 dIx (mVa (mOp2 dIx (mNm 2) (mNm 5))) (mVa (M.ret (.int 1))))) (mCons (mNm 6) (M.ret []))))) (mFz 5)) else b_x_law_near_5)
def b_x_law_near_7 : M Fl :=
  (((mOp2 (dI fun i j => decide (i < j)) (mNm 4) (mVa (M.ret (.int 3)))).bind dBool).bind fun k => if k = true then (mSeq (mSet 8 (mIf ((mOp2 (dI fun i j => decide (i < j)) (mNm 4) (mVa (M.ret (.int 2)))).bind dBool) ((mCons (mNm 0) (mCons (mVa ((mCons (mNm 1) (M.ret [])).bind (mCallF [.im] f_x_law_names))) (M.ret []))).bind (mCallF [.mu, .ro] f_x_law_choose)) (mFz 6)))
    (mSetN 2 (mLc (some 1) (mItN 1) [10] (tgNm 10) (M.ret true) e_x_law_near_3))) else b_x_law_near_6)
def b_x_law_near_8 : M Fl :=
  ((mAndB ((mOp2 (dI fun i j => decide (j < i)) (mVa (mCall dLen (mCons (mNm 2) (M.ret [])))) (mVa (M.ret (.int 1)))).bind dBool) ((mOp2 dEq (mVa ((mCons (mNm 0) (mCons (mVa (M.ret (.int 6))) (M.ret []))).bind (mCallF [.mu, .im] f_x_law_draw))) (mVa (M.ret (.int 0)))).bind dBool)).bind fun k => if k = true then ((mWm "list" 2 fPop (M.ret [])).bind fun _ => M.ret .nx) else (M.ret .nx))
def m_x_law_near : M Fl :=
  (mSeq (mSetN 2 (mLc (some 1) (mItN 1) [3] (tgNm 3) (M.ret true) (mFz 3)))
    (mSeq (mPar 4 5 (mCons (mVa ((mCons (mNm 0) (mCons (mVa (M.ret (.int 7))) (M.ret []))).bind (mCallF [.mu, .im] f_x_law_draw))) (mCons (mVa ((mCons (mNm 0) (mCons (mVa (mCall dLen (mCons (mNm 1) (M.ret [])))) (M.ret []))).bind (mCallF [.mu, .im] f_x_law_draw))) (M.ret []))))
    (mSeq (mAsg (tgTup 2 (tgCons (tgNm 6) (tgCons (tgNm 7) tgNil))) (mTup (mCons (mVa ((mCons (mNm 0) (mCons (mVa (M.ret (.int 10))) (M.ret []))).bind (mCallF [.mu, .im] f_x_law_draw))) (mCons (mVa ((mCons (mNm 0) (mCons (mVa ((mCons (mNm 1) (M.ret [])).bind (mCallF [.im] f_x_law_names))) (M.ret []))).bind (mCallF [.mu, .ro] f_x_law_choose))) (M.ret [])))))
    (mSeq b_x_law_near_7
    (mSeq b_x_law_near_8
    (mSeq (mSet 11 ((mCons (mNm 0) (mCons (mVa (mCall dLen (mCons (mNm 2) (M.ret [])))) (M.ret []))).bind (mCallF [.mu, .im] f_x_law_draw)))
    ((mOp2 dAdd (mVa (mSl (mNm 2) ((mFz 11).bind dSome) (M.ret none))) (mVa (mSl (mNm 2) (M.ret none) ((mFz 11).bind dSome)))).bind fun d => M.ret (.rt d))))))))
def f_x_law_near : Fn := runDef [.mu, .im] 12 m_x_law_near
end Cq.S6

set_option Elab.async false
set_option linter.all false
set_option maxRecDepth 100000
set_option maxHeartbeats 1000000
namespace Cq
open PySem PySem.Spec PyProof.Rows L2
/-- items that nothing changes -/
def relR (K : Frag) : Rl (List D) It := fun _ _ F' _ _ ds J => Items K F' (fun _ => True) J ds
section
variable {X : Cx} {W : WX} {pos : Pos} {σ : L2.St} {F H F0 H0 : Hp} {g g0 : Gm}
def SR (X : Cx) (W : WX) (tg iter : Expr) (m : M (List D)) : Prop := PI X tg iter (tG X.K W (relR X.K) m)
end
end Cq

set_option Elab.async false
set_option linter.all false
set_option maxRecDepth 100000
set_option maxHeartbeats 1000000
namespace Cq
open PySem PySem.Spec PyProof.Rows L2
section
variable {X : Cx} {W : WX} {pos : Pos} {σ : L2.St} {F H F0 H0 : Hp} {g g0 : Gm}
/-- the clauses, as the text has them -/
inductive CsOk (X : Cx) (W : WX) : List MatchCase → List (Str × M Fl) → Prop
  | nil : CsOk X W [] []
  | cons {c : Str} {body : List Stmt} {m : M Fl} {rest : List MatchCase} {r : List (Str × M Fl)} {k : Nat} {p1 p2 : Pos} : SSs X W body m → CsOk X W rest r → CsOk X W (⟨.MatchValue (.Constant (.str c) k p1) p2, none, body⟩ :: rest) ((c, m) :: r)
end
end Cq

set_option Elab.async false
set_option linter.all false
set_option maxRecDepth 100000
set_option Elab.async false
set_option linter.all false
set_option maxRecDepth 100000
set_option Elab.async false
set_option linter.all false
set_option maxRecDepth 100000
namespace Cq
open PySem PySem.Spec PyProof.Rows L2
def mkD (A : Addr) : D := .lam A (fun _ => none) none .non
def mkA (A : Addr) : Sl := .im (mkD A)
/-- the cell of slot i is held by slot m -/
def inG (g : Gm) (i m : Nat) (A : Addr) (d : D) : Gm := (g.set i (mkA A)).set m (.mb d)
def outG (g : Gm) (i m : Nat) (d : D) : Gm := (g.set m .un).set i (.ow d)
def lamA : Sl → Option Addr
  | .im (.lam A _ _ _) => some A
  | _ => none
def mbD : Sl → Option D
  | .mb d => some d
  | _ => none
def owD : Sl → Option D
  | .ow d => some d
  | _ => none
def endO (g2 : Gm) (i m : Nat) (A : Addr) : Option Gm := match (g2[i]?).bind lamA, (g2[m]?).bind mbD with
  | some A', some d' => if A' = A then some (outG g2 i m d') else none
  | _, _ => none
def runO (mb : M Fl) (i m : Nat) (A : Addr) (g : Gm) : Option Gm := match mb g with
  | some (.ok .nx g2) => endO g2 i m A
  | _ => none
def inOut (i m : Nat) (A : Addr) (mb : M Fl) (g : Gm) : Option Gm := match (g[i]?).bind owD, g[m]? with
  | some d, some s => if s.cell = none then runO mb i m A (inG (g.set m (mkA A)) i m A d) else none
  | _, _ => none
def lstD : D → Option (List D)
  | .lst ds => some ds
  | _ => none
/-- j's cell is out of sight during the first turn -/
def hidden (i j m : Nat) (A B : Addr) (mb : M Fl) (g : Gm) : Option Gm := match ((g[j]?).bind owD).bind lstD with
  | some ds => (match inOut i m A mb (g.set j (mkA B)) with
    | some g2 => if (g2[j]?).bind lamA = some B then some (g2.set j (.ow (.lst ds))) else none
    | none => none)
  | none => none
end Cq

set_option Elab.async false
set_option linter.all false
set_option maxRecDepth 100000
set_option Elab.async false
set_option linter.all false
set_option maxRecDepth 100000
set_option Elab.async false
set_option linter.all false
set_option maxRecDepth 100000
namespace Cq
open PySem PySem.Spec PyProof.Rows L2
section
variable {P : Program} {w : World} {κ : Type} [DecidableEq κ] {knd : KeyKind P w κ} {A : Around} {E : Value → Shared → Prop} {s : Shared}
/-- the entries of a set of such tuples -/
def ents (knd : KeyKind P w κ) (L : List (Addr × List κ)) : List (Int × Value) := L.map fun p => (tupleKeyHash knd p.2, Value.ref p.1)
def hsh (knd : KeyKind P w κ) (L : List (Addr × List κ)) : List Int := L.map fun p => tupleKeyHash knd p.2
/-- a set of fewer than 64 such tuples -/
structure MSet (knd : KeyKind P w κ) (h : Heap) (a : Addr) (L : List (Addr × List κ)) (es : Array (Int × Value)) (ep : Nat) (t : SetTable) : Prop where
  ob : ∃ o, h.get? a = some o ∧ o.ExactSet ∧ o.data = .set es ep t
  rows : es.toList = ents knd L
  tab : TabOk t (hsh knd L)
  room : L.length * 5 < t.mask * 3
  nd : (L.map (·.2)).Nodup
  tup : ∀ p ∈ L, IsTupleKey knd h p.2 p.1
  led : w.params.followText "set-order" = true ∨ t.led = true
  few : L.length < 64
variable {a : Addr} {L : List (Addr × List κ)} {es : Array (Int × Value)} {ep : Nat} {t : SetTable}
theorem MSet.size (R : MSet knd s.heap a L es ep t) : es.size = L.length := by
  have h := congrArg List.length R.rows
  unfold ents at h
  rwa [Array.length_toList, List.length_map] at h
theorem MSet.psize (R : MSet knd s.heap a L es ep t) : t.place.size = L.length := by
  have h := R.tab.sz
  unfold hsh at h
  rwa [List.length_map] at h
theorem MSet.fits (R : MSet knd s.heap a L es ep t) : t.fits es.size = true := by
  have h1 := R.psize
  have h2 := R.size
  have h4 := R.room
  unfold SetTable.fits SetTable.fill
  rw [R.tab.dm, Bool.and_eq_true, beq_iff_eq, decide_eq_true_eq]
  show t.place.size = es.size ∧ t.place.size + 0 ≤ t.mask
  omega
theorem MSet.gw (R : MSet knd s.heap a L es ep t) : ¬ t.gaveWay = true := by
  unfold SetTable.gaveWay
  rw [mask_odd R.tab.mok]
  decide
theorem MSet.keep {h h' : Heap} (R : MSet knd h a L es ep t) (ha : ∀ o, h.get? a = some o → h'.get? a = some o) (ht : ∀ p ∈ L, IsTupleKey knd h' p.2 p.1) : MSet knd h' a L es ep t :=
  ⟨R.ob.imp fun o z => ⟨ha o z.1, z.2⟩, R.rows, R.tab, R.room, R.nd, ht, R.led, R.few⟩
end
end Cq

set_option Elab.async false
set_option linter.all false
set_option maxRecDepth 100000
set_option Elab.async false
set_option linter.all false
set_option maxRecDepth 100000
set_option Elab.async false
set_option linter.all false
set_option maxRecDepth 100000
set_option Elab.async false
set_option linter.all false
set_option maxRecDepth 100000
namespace Cq
open PySem PySem.Spec PyProof.Rows L2
/-- what is held of the first i tuples -/
structure Hol {κ : Type} (ks : List (Addr × List κ)) (i : Nat) (L : List (Addr × List κ)) : Prop where
  sub : ∀ p ∈ L, p ∈ ks.take i
  all : ∀ p ∈ ks.take i, p.2 ∈ L.map (·.2)
  len : L.length ≤ i
end Cq

set_option Elab.async false
set_option linter.all false
set_option maxRecDepth 100000
set_option maxHeartbeats 1000000
set_option Elab.async false
set_option linter.all false
set_option maxRecDepth 100000
set_option maxHeartbeats 1000000
set_option Elab.async false
set_option linter.all false
set_option maxRecDepth 100000
set_option maxHeartbeats 1000000
set_option Elab.async false
set_option linter.all false
set_option maxRecDepth 100000
set_option maxHeartbeats 1000000
set_option Elab.async false
set_option linter.all false
set_option maxRecDepth 100000
set_option maxHeartbeats 1000000
set_option Elab.async false
set_option linter.all false
set_option maxRecDepth 100000
set_option Elab.async false
set_option linter.all false
set_option maxRecDepth 100000
set_option Elab.async false
set_option linter.all false
set_option maxRecDepth 100000
set_option Elab.async false
set_option linter.all false
set_option maxRecDepth 100000
set_option maxHeartbeats 4000000
namespace Cq.K61
open PySem PySem.Spec PyProof.Rows L2 Cq Cq.Sp Cq.S6
/-- what the head tells of the module -/
structure Gt (K : Frag) (mg : Str → Option Value) : Prop where
  b_len : mg "len" = none
  b_min : mg "min" = none
  b_max : mg "max" = none
  b_range : mg "range" = none
  g_x_law_cell : mg "_law_cell" = some (.ref (He.ga K "_law_cell"))
  kp_x_law_cell : PySem.W.keepIn K (.ref (He.ga K "_law_cell")) = true
  g_x_law_source : mg "_law_source" = some (.ref (He.ga K "_law_source"))
  kp_x_law_source : PySem.W.keepIn K (.ref (He.ga K "_law_source")) = true
  b_str : mg "str" = none
  g_x_law_draw : mg "_law_draw" = some (.ref (He.ga K "_law_draw"))
  kp_x_law_draw : PySem.W.keepIn K (.ref (He.ga K "_law_draw")) = true
  g_x_law_choose : mg "_law_choose" = some (.ref (He.ga K "_law_choose"))
  kp_x_law_choose : PySem.W.keepIn K (.ref (He.ga K "_law_choose")) = true
  g_x_law_some : mg "_law_some" = some (.ref (He.ga K "_law_some"))
  kp_x_law_some : PySem.W.keepIn K (.ref (He.ga K "_law_some")) = true
  g_x_law_words : mg "_law_words" = some (.ref (He.ga K "_law_words"))
  kp_x_law_words : PySem.W.keepIn K (.ref (He.ga K "_law_words")) = true
  g_x_law_near : mg "_law_near" = some (.ref (He.ga K "_law_near"))
  kp_x_law_near : PySem.W.keepIn K (.ref (He.ga K "_law_near")) = true
  k_str : KitOk K [0, 1] .str
  b_isinstance : mg "isinstance" = none
  b_int : mg "int" = none
  b_tuple : mg "tuple" = none
  g_x_law_read : mg "_law_read" = some (.ref (He.ga K "_law_read"))
  kp_x_law_read : PySem.W.keepIn K (.ref (He.ga K "_law_read")) = true
  fl_1_kept : ∀ c ∈ ([1] : List Nat), Cls K (ca K c) ∧ NoAttr K (ca K c) (fname 0)
  b_sorted : mg "sorted" = none
  b_set : mg "set" = none
  g_variables_of : mg "variables_of" = some (.ref (He.ga K "variables_of"))
  kp_variables_of : PySem.W.keepIn K (.ref (He.ga K "variables_of")) = true
  me_Question___repr : Meth K (ca K 1) "__repr__" (He.ma K (ca K 1) "__repr__")
  sm : SmK K
  b_repr : mg "repr" = none
  xm_14 : tExm [10, 11, 12, 14, 15, 16, 17, 18] [14] K = true
  ex_NoText : (He.Fa.exc "NoText").ok K = true
  g_NoText : mg "NoText" = some (.ref (He.ga K "NoText"))
  c_DIGITS : ∃ t, mg "DIGITS" = some (.str "0123456789" t)
  g_atom_of_word : mg "atom_of_word" = some (.ref (He.ga K "atom_of_word"))
  kp_atom_of_word : PySem.W.keepIn K (.ref (He.ga K "atom_of_word")) = true
  c_MOST_ATOMS : ∃ t, mg "MOST_ATOMS" = some (.int 4 t)
  k_tuple : KitOk K [0, 1] .tuple
  t_KINDS : tTup "KINDS" ((["A", "B", "C"] : List Str).map He.Dv.str) K = true
  g_KINDS : mg "KINDS" = some (.ref (He.ga K "KINDS"))
  g_is_kind : mg "is_kind" = some (.ref (He.ga K "is_kind"))
  kp_is_kind : PySem.W.keepIn K (.ref (He.ga K "is_kind")) = true
  k_int : KitOk K [0, 1] .int
  k_bool : KitOk K [0, 1] .bool
  b_bool : mg "bool" = none
  g_is_integer : mg "is_integer" = some (.ref (He.ga K "is_integer"))
  kp_is_integer : PySem.W.keepIn K (.ref (He.ga K "is_integer")) = true
  c_MOST_VARIABLE : ∃ t, mg "MOST_VARIABLE" = some (.int 9 t)
  g_is_between : mg "is_between" = some (.ref (He.ga K "is_between"))
  kp_is_between : PySem.W.keepIn K (.ref (He.ga K "is_between")) = true
  g_is_atom : mg "is_atom" = some (.ref (He.ga K "is_atom"))
  kp_is_atom : PySem.W.keepIn K (.ref (He.ga K "is_atom")) = true
  b_all : mg "all" = none
  g_are_atoms : mg "are_atoms" = some (.ref (He.ga K "are_atoms"))
  kp_are_atoms : PySem.W.keepIn K (.ref (He.ga K "are_atoms")) = true
  ex_NoAtoms : (He.Fa.exc "NoAtoms").ok K = true
  g_NoAtoms : mg "NoAtoms" = some (.ref (He.ga K "NoAtoms"))
  mk_1 : Mk K (ca K 1) (He.ma K (ca K 1) "__init__")
  kp_Question : PySem.W.keepIn K (.ref (He.ga K "Question")) = true
  cm_Question_read : ClX.CRead K (ca K 1) (.type "type") ∧ ClX.CMet K (ca K 1) (.type "type") "read" (He.ma K (ca K 1) "read") (cma K (ca K 1) "read")
  g_Question : mg "Question" = some (.ref (He.ga K "Question"))
  pr_Question_atoms : PropOf K (ca K 1) "atoms" (He.ma K (ca K 1) "atoms") (pga K (ca K 1) "atoms")
  cl_1 : Cls K (ca K 1)
  g_x_law_is_equal : mg "_law_is_equal" = some (.ref (He.ga K "_law_is_equal"))
  kp_x_law_is_equal : PySem.W.keepIn K (.ref (He.ga K "_law_is_equal")) = true
  me_Question_text : Meth K (ca K 1) "text" (He.ma K (ca K 1) "text")
  k_Question : KitOk K [0, 1] (.cls 1)
  me_Question___eq : Meth K (ca K 1) "__eq__" (He.ma K (ca K 1) "__eq__")
  g_x_law_is_right : mg "_law_is_right" = some (.ref (He.ga K "_law_is_right"))
  kp_x_law_is_right : PySem.W.keepIn K (.ref (He.ga K "_law_is_right")) = true
  g_law : mg "law" = some (.ref (He.ga K "law"))
  noT : ∀ P ∈ tT K, ∀ H : Hp, H P = some (.tbl #[])
  d_x_law_source : ∃ fd, FunD K "_law_source" "_law_source" (defArgs (top 47)) (defBody (top 47)) (defScope (top 47)) [] [] (He.ga K "_law_source") fd
  d_x_law_cell : ∃ fd, FunD K "_law_cell" "_law_cell" (defArgs (top 46)) (defBody (top 46)) (defScope (top 46)) [] [] (He.ga K "_law_cell") fd
  d_x_law_words : ∃ fd, FunD K "_law_words" "_law_words" (defArgs (top 52)) (defBody (top 52)) (defScope (top 52)) [] [] (He.ga K "_law_words") fd
  d_x_law_draw : ∃ fd, FunD K "_law_draw" "_law_draw" (defArgs (top 48)) (defBody (top 48)) (defScope (top 48)) [] [] (He.ga K "_law_draw") fd
  d_x_law_choose : ∃ fd, FunD K "_law_choose" "_law_choose" (defArgs (top 49)) (defBody (top 49)) (defScope (top 49)) [] [] (He.ga K "_law_choose") fd
  d_x_law_some : ∃ fd, FunD K "_law_some" "_law_some" (defArgs (top 51)) (defBody (top 51)) (defScope (top 51)) [] [] (He.ga K "_law_some") fd
  d_x_law_near : ∃ fd, FunD K "_law_near" "_law_near" (defArgs (top 57)) (defBody (top 57)) (defScope (top 57)) [] [] (He.ga K "_law_near") fd
  d_x_law_read : ∃ fd, FunD K "_law_read" "_law_read" (defArgs (top 55)) (defBody (top 55)) (defScope (top 55)) [] [] (He.ga K "_law_read") fd
  d_variables_of : ∃ fd, FunD K "variables_of" "variables_of" (defArgs (top 38)) (defBody (top 38)) (defScope (top 38)) [] [] (He.ga K "variables_of") fd
  d_Question___repr : ∃ fd, FunD K "__repr__" "Question.__repr__" (defArgs (mth 43 13)) (defBody (mth 43 13)) (defScope (mth 43 13)) [] [] (He.ma K (ca K 1) "__repr__") fd
  d_atom_of_word : ∃ fd, FunD K "atom_of_word" "atom_of_word" (defArgs (top 37)) (defBody (top 37)) (defScope (top 37)) [] [] (He.ga K "atom_of_word") fd
  d_is_kind : ∃ fd, FunD K "is_kind" "is_kind" (defArgs (top 19)) (defBody (top 19)) (defScope (top 19)) [] [] (He.ga K "is_kind") fd
  d_is_integer : ∃ fd, FunD K "is_integer" "is_integer" (defArgs (top 17)) (defBody (top 17)) (defScope (top 17)) [] [] (He.ga K "is_integer") fd
  d_is_between : ∃ fd, FunD K "is_between" "is_between" (defArgs (top 18)) (defBody (top 18)) (defScope (top 18)) [] [] (He.ga K "is_between") fd
  d_is_atom : ∃ fd, FunD K "is_atom" "is_atom" (defArgs (top 35)) (defBody (top 35)) (defScope (top 35)) [] [] (He.ga K "is_atom") fd
  d_are_atoms : ∃ fd, FunD K "are_atoms" "are_atoms" (defArgs (top 36)) (defBody (top 36)) (defScope (top 36)) [] [] (He.ga K "are_atoms") fd
  d_Question___init : ∃ fd, FunD K "__init__" "Question.__init__" (defArgs (mth 43 0)) (defBody (mth 43 0)) (defScope (mth 43 0)) [] [] (He.ma K (ca K 1) "__init__") fd
  d_Question_read : ∃ fd, FunD K "read" "Question.read" (defArgs (mth 43 1)) (defBody (mth 43 1)) (defScope (mth 43 1)) [] [] (cma K (ca K 1) "read") fd
  d_x_law_is_equal : ∃ fd, FunD K "_law_is_equal" "_law_is_equal" (defArgs (top 50)) (defBody (top 50)) (defScope (top 50)) [] [] (He.ga K "_law_is_equal") fd
  d_Question_atoms : ∃ fd, FunD K "atoms" "Question.atoms" (defArgs (mth 43 3)) (defBody (mth 43 3)) (defScope (mth 43 3)) [] [] (pga K (ca K 1) "atoms") fd
  d_Question_text : ∃ fd, FunD K "text" "Question.text" (defArgs (mth 43 2)) (defBody (mth 43 2)) (defScope (mth 43 2)) [] [] (He.ma K (ca K 1) "text") fd
  d_Question___eq : ∃ fd, FunD K "__eq__" "Question.__eq__" (defArgs (mth 43 12)) (defBody (mth 43 12)) (defScope (mth 43 12)) [] [] (He.ma K (ca K 1) "__eq__") fd
  d_x_law_is_right : ∃ fd, FunD K "_law_is_right" "_law_is_right" (defArgs (top 56)) (defBody (top 56)) (defScope (top 56)) [] [] (He.ga K "_law_is_right") fd
  d_law : ∃ fd, FunD K "law" "law" (defArgs (top 58)) (defBody (top 58)) (defScope (top 58)) [] [] (He.ga K "law") fd
section
variable {P : Program} {w : World} {K : Frag} {mg : Str → Option Value} {base : Heap}
theorem sc_x_law_source : FnScope ["_law_cell_here"] ["_law_cell_here"] (defScope (top 47)) := ⟨rfl, rfl, rfl, by decide +kernel, rfl, by decide +kernel, by decide +kernel⟩
theorem ok_x_law_source (G : Gt K mg) : FnR P w K mg base (L2.CX P w) 1 (He.ga K "_law_source") (spF K [.im] f_x_law_source) := by
  obtain ⟨fd, F⟩ := G.d_x_law_source
  exact fnr (N := ["_law_cell_here"]) (ps := ["_law_cell_here"]) (ms := [.im]) (m := m_x_law_source) F sc_x_law_source rfl (fun _ _ _ _ _ _ us hl => match us, hl with | [_], _ => rfl) fun cdv A outer s H E hr tk po =>
    (ss_one (ss_retN (sn_lst (sa_cons (so_of_se (se_callB (cw_max2 rfl) rfl G.b_max (by decide +kernel) (sa_cons (so_of_se se_int) (sa_cons (so_of_se (se_op2 ow_sub (so_name 0 rfl (by first | exact .inl rfl | exact .inr (.inl rfl) | exact .inr (.inr rfl) | exact .inr rfl)) (so_of_se (se_op2 ow_pow (so_of_se se_int) (so_of_se se_int))))) sa_nil)))) (sa_cons (so_of_se (se_op2 ow_add (so_of_se (se_op2 ow_mod (so_name 0 rfl (by first | exact .inl rfl | exact .inr (.inl rfl) | exact .inr (.inr rfl) | exact .inr rfl)) (so_of_se se_int))) (so_of_se se_int))) (sa_cons (so_of_se se_int) sa_nil))))))
theorem sc_x_law_cell : FnScope ["_law_script", "_law_index"] ["_law_script", "_law_index"] (defScope (top 46)) := ⟨rfl, rfl, rfl, by decide +kernel, rfl, by decide +kernel, by decide +kernel⟩
theorem ok_x_law_cell (G : Gt K mg) : FnR P w K mg base (L2.CX P w) 1 (He.ga K "_law_cell") (spF K [.im, .im] f_x_law_cell) := by
  obtain ⟨fd, F⟩ := G.d_x_law_cell
  exact fnr (N := ["_law_script", "_law_index"]) (ps := ["_law_script", "_law_index"]) (ms := [.im, .im]) (m := m_x_law_cell) F sc_x_law_cell rfl (fun _ _ _ _ _ _ us hl => match us, hl with | [_, _], _ => rfl) fun cdv A outer s H E hr tk po =>
    (ss_cons (ss_if (sb_cmp (owI op_lt) (so_name 1 rfl (by first | exact .inl rfl | exact .inr (.inl rfl) | exact .inr (.inr rfl) | exact .inr rfl)) (so_of_se (se_callB cw_len rfl G.b_len (by decide +kernel) (sa_cons (so_name 0 rfl (by first | exact .inl rfl | exact .inr (.inl rfl) | exact .inr (.inr rfl) | exact .inr rfl)) sa_nil))) (nomark _)) (ss_one (ss_ret (se_ix ow_ix (so_name 0 rfl (by first | exact .inl rfl | exact .inr (.inl rfl) | exact .inr (.inr rfl) | exact .inr rfl)) (so_name 1 rfl (by first | exact .inl rfl | exact .inr (.inl rfl) | exact .inr (.inr rfl) | exact .inr rfl)) (fun _ _ => rfl)))) ss_nil) (ss_one (ss_ret se_int)))
theorem sc_x_law_words : FnScope ["_law_atoms", "_law_kind", "_law_left", "_law_right"] ["_law_atoms"] (defScope (top 52)) := ⟨rfl, rfl, rfl, by decide +kernel, rfl, by decide +kernel, by decide +kernel⟩
theorem ok_x_law_words (G : Gt K mg) : FnR P w K mg base (L2.CX P w) 1 (He.ga K "_law_words") (spF K [.im] f_x_law_words) := by
  obtain ⟨fd, F⟩ := G.d_x_law_words
  exact fnr (N := ["_law_atoms", "_law_kind", "_law_left", "_law_right"]) (ps := ["_law_atoms"]) (ms := [.im]) (m := m_x_law_words) F sc_x_law_words rfl (fun _ _ _ _ _ _ us hl => match us, hl with | [_], _ => rfl) fun cdv A outer s H E hr tk po =>
    (ss_one (ss_ret (se_bm PySem.F.plainAttrs_str PySem.F.slot_str_join PySem.F.type_str_join mw_join (so_of_se se_str) (sa_cons (so_of_se (se_of_sn (sn_lc (own := [("_law_kind", 1), ("_law_left", 2), ("_law_right", 3)]) rfl sc_x_law_words.nd (si_nm 0 rfl (by first | exact .inl rfl | exact .inr (.inl rfl) | exact .inr (.inr rfl) | exact .inr rfl)) (blkOk_by rfl) (fun _ _ _ _ _ => (sg_tup (n := 3) rfl (sg_cons (sg_nm 1 sc_x_law_words.nd rfl (by first | exact .inl rfl | exact .inr (.inl rfl) | exact .inr (.inr rfl) | exact .inr rfl)) (sg_cons (sg_nm 2 sc_x_law_words.nd rfl (by first | exact .inl rfl | exact .inr (.inl rfl) | exact .inr (.inr rfl) | exact .inr rfl)) (sg_cons (sg_nm 3 sc_x_law_words.nd rfl (by first | exact .inl rfl | exact .inr (.inl rfl) | exact .inr (.inr rfl) | exact .inr rfl)) sg_nil))))) (fun _ _ _ _ _ => st_nil) (fun _ _ _ _ _ => (se_op2 ow_add (so_of_se (se_op2 ow_add (so_name 1 rfl (by first | exact .inl rfl | exact .inr (.inl rfl) | exact .inr (.inr rfl) | exact .inr rfl)) (so_of_se (se_callTy cw_str rfl G.b_str (by decide +kernel) (sa_cons (so_name 2 rfl (by first | exact .inl rfl | exact .inr (.inl rfl) | exact .inr (.inr rfl) | exact .inr rfl)) sa_nil))))) (so_of_se (se_callTy cw_str rfl G.b_str (by decide +kernel) (sa_cons (so_name 3 rfl (by first | exact .inl rfl | exact .inr (.inl rfl) | exact .inr (.inr rfl) | exact .inr rfl)) sa_nil)))))))) sa_nil))))
theorem sc_x_law_draw : FnScope ["_law_source_here", "_law_many", "_law_found", "_law_mixed"] ["_law_source_here", "_law_many"] (defScope (top 48)) := ⟨rfl, rfl, rfl, by decide +kernel, rfl, by decide +kernel, by decide +kernel⟩
theorem ok_x_law_draw (G : Gt K mg) : FnR P w K mg base (L2.CX P w) 1 (He.ga K "_law_draw") (spF K [.mu, .im] f_x_law_draw) := by
  obtain ⟨fd, F⟩ := G.d_x_law_draw
  exact fnr (N := ["_law_source_here", "_law_many", "_law_found", "_law_mixed"]) (ps := ["_law_source_here", "_law_many"]) (ms := [.mu, .im]) (m := m_x_law_draw) F sc_x_law_draw rfl (fun _ _ _ _ _ _ us hl => match us, hl with | [_, _], _ => rfl) fun cdv A outer s H E hr tk po =>
    (ss_cons (ss_if (sb_cmp (owI op_gt) (so_of_se (se_ix ow_ix (so_name 0 rfl (by first | exact .inl rfl | exact .inr (.inl rfl) | exact .inr (.inr rfl) | exact .inr rfl)) (so_of_se se_int) (fun _ _ => rfl))) (so_of_se se_int) (nomark _)) (ss_cons (ss_set 2 sc_x_law_draw.nd rfl (by first | exact .inl rfl | exact .inr (.inl rfl) | exact .inr (.inr rfl) | exact .inr rfl) (se_op2 ow_mod (so_of_se (se_ix ow_ix (so_name 0 rfl (by first | exact .inl rfl | exact .inr (.inl rfl) | exact .inr (.inr rfl) | exact .inr rfl)) (so_of_se se_int) (fun _ _ => rfl))) (so_name 1 rfl (by first | exact .inl rfl | exact .inr (.inl rfl) | exact .inr (.inr rfl) | exact .inr rfl)))) (ss_cons (ss_setIx (T := "list") 0 wset_list rfl (by first | exact .inl rfl | exact .inr (.inl rfl) | exact .inr (.inr rfl) | exact .inr rfl) (se_op2 ow_div (so_of_se (se_ix ow_ix (so_name 0 rfl (by first | exact .inl rfl | exact .inr (.inl rfl) | exact .inr (.inr rfl) | exact .inr rfl)) (so_of_se se_int) (fun _ _ => rfl))) (so_name 1 rfl (by first | exact .inl rfl | exact .inr (.inl rfl) | exact .inr (.inr rfl) | exact .inr rfl))) se_int) (ss_one (ss_ret (se_of_so (so_name 2 rfl (by first | exact .inl rfl | exact .inr (.inl rfl) | exact .inr (.inr rfl) | exact .inr rfl))))))) ss_nil) (ss_cons (ss_setIx (T := "list") 0 wset_list rfl (by first | exact .inl rfl | exact .inr (.inl rfl) | exact .inr (.inr rfl) | exact .inr rfl) (se_op2 ow_add (so_of_se (se_ix ow_ix (so_name 0 rfl (by first | exact .inl rfl | exact .inr (.inl rfl) | exact .inr (.inr rfl) | exact .inr rfl)) (so_of_se se_int) (fun _ _ => rfl))) (so_of_se se_int)) se_int) (ss_cons (ss_setIx (T := "list") 0 wset_list rfl (by first | exact .inl rfl | exact .inr (.inl rfl) | exact .inr (.inr rfl) | exact .inr rfl) (se_op2 ow_mod (so_of_se (se_op2 ow_add (so_of_se (se_op2 ow_add (so_of_se (se_op2 ow_mul (so_of_se (se_ix ow_ix (so_name 0 rfl (by first | exact .inl rfl | exact .inr (.inl rfl) | exact .inr (.inr rfl) | exact .inr rfl)) (so_of_se se_int) (fun _ _ => rfl))) (so_of_se se_int))) (so_of_se (se_op2 ow_mul (so_of_se se_int) (so_of_se (se_ix ow_ix (so_name 0 rfl (by first | exact .inl rfl | exact .inr (.inl rfl) | exact .inr (.inr rfl) | exact .inr rfl)) (so_of_se se_int) (fun _ _ => rfl))))))) (so_of_se se_int))) (so_of_se se_int)) se_int) (ss_cons (ss_set 3 sc_x_law_draw.nd rfl (by first | exact .inl rfl | exact .inr (.inl rfl) | exact .inr (.inr rfl) | exact .inr rfl) (se_op2 ow_mod (so_of_se (se_op2 ow_add (so_of_se (se_op2 ow_add (so_of_se (se_op2 ow_mul (so_of_se (se_ix ow_ix (so_name 0 rfl (by first | exact .inl rfl | exact .inr (.inl rfl) | exact .inr (.inr rfl) | exact .inr rfl)) (so_of_se se_int) (fun _ _ => rfl))) (so_of_se (se_ix ow_ix (so_name 0 rfl (by first | exact .inl rfl | exact .inr (.inl rfl) | exact .inr (.inr rfl) | exact .inr rfl)) (so_of_se se_int) (fun _ _ => rfl))))) (so_of_se (se_op2 ow_mul (so_of_se se_int) (so_of_se (se_ix ow_ix (so_name 0 rfl (by first | exact .inl rfl | exact .inr (.inl rfl) | exact .inr (.inr rfl) | exact .inr rfl)) (so_of_se se_int) (fun _ _ => rfl))))))) (so_of_se se_int))) (so_of_se se_int))) (ss_cons (ss_set 3 sc_x_law_draw.nd rfl (by first | exact .inl rfl | exact .inr (.inl rfl) | exact .inr (.inr rfl) | exact .inr rfl) (se_op2 ow_mod (so_of_se (se_op2 ow_add (so_of_se (se_op2 ow_mul (so_name 3 rfl (by first | exact .inl rfl | exact .inr (.inl rfl) | exact .inr (.inr rfl) | exact .inr rfl)) (so_name 3 rfl (by first | exact .inl rfl | exact .inr (.inl rfl) | exact .inr (.inr rfl) | exact .inr rfl)))) (so_of_se (se_op2 ow_mul (so_of_se se_int) (so_name 3 rfl (by first | exact .inl rfl | exact .inr (.inl rfl) | exact .inr (.inr rfl) | exact .inr rfl)))))) (so_of_se se_int))) (ss_one (ss_ret (se_op2 ow_mod (so_of_se (se_op2 ow_div (so_name 3 rfl (by first | exact .inl rfl | exact .inr (.inl rfl) | exact .inr (.inr rfl) | exact .inr rfl)) (so_of_se se_int))) (so_name 1 rfl (by first | exact .inl rfl | exact .inr (.inl rfl) | exact .inr (.inr rfl) | exact .inr rfl))))))))))
theorem sc_x_law_choose : FnScope ["_law_source_here", "_law_values"] ["_law_source_here", "_law_values"] (defScope (top 49)) := ⟨rfl, rfl, rfl, by decide +kernel, rfl, by decide +kernel, by decide +kernel⟩
theorem ok_x_law_choose (G : Gt K mg) : FnR P w K mg base (L2.CX P w) 2 (He.ga K "_law_choose") (spF K [.mu, .ro] f_x_law_choose) := by
  obtain ⟨fd, F⟩ := G.d_x_law_choose
  exact fnr (N := ["_law_source_here", "_law_values"]) (ps := ["_law_source_here", "_law_values"]) (ms := [.mu, .ro]) (m := m_x_law_choose) F sc_x_law_choose rfl (fun _ _ _ _ _ _ us hl => match us, hl with | [_, _], _ => rfl) fun cdv A outer s H E hr tk po =>
    (ss_one (ss_ret (se_ix ow_ix (so_name 1 rfl (by first | exact .inl rfl | exact .inr (.inl rfl) | exact .inr (.inr rfl) | exact .inr rfl)) (so_of_se (se_call (calR_fn (ok_x_law_draw G) (hr.mono (by decide)) tk) rfl G.g_x_law_draw G.kp_x_law_draw (sa_cons (so_name 0 rfl (by first | exact .inl rfl | exact .inr (.inl rfl) | exact .inr (.inr rfl) | exact .inr rfl)) (sa_cons (so_of_se (se_callB cw_len rfl G.b_len (by decide +kernel) (sa_cons (so_name 1 rfl (by first | exact .inl rfl | exact .inr (.inl rfl) | exact .inr (.inr rfl) | exact .inr rfl)) sa_nil))) sa_nil)))) (fun _ _ => rfl))))
theorem sc_x_law_some : FnScope ["_law_source_here", "_law_most", "_law_pool", "_law_kinds", "_law_found", "_law_turn", "_law_atom"] ["_law_source_here", "_law_most"] (defScope (top 51)) := ⟨rfl, rfl, rfl, by decide +kernel, rfl, by decide +kernel, by decide +kernel⟩
theorem ok_x_law_some (G : Gt K mg) : FnR P w K mg base (L2.CX P w) 3 (He.ga K "_law_some") (spF K [.mu, .im] f_x_law_some) := by
  obtain ⟨fd, F⟩ := G.d_x_law_some
  exact fnr (N := ["_law_source_here", "_law_most", "_law_pool", "_law_kinds", "_law_found", "_law_turn", "_law_atom"]) (ps := ["_law_source_here", "_law_most"]) (ms := [.mu, .im]) (m := m_x_law_some) F sc_x_law_some rfl (fun _ _ _ _ _ _ us hl => match us, hl with | [_, _], _ => rfl) fun cdv A outer s H E hr tk po =>
    (ss_cons (ss_set 2 sc_x_law_some.nd rfl (by first | exact .inl rfl | exact .inr (.inl rfl) | exact .inr (.inr rfl) | exact .inr rfl) (se_of_sn (sn_lst (sa_cons (so_of_se (se_tup (sa_cons (so_of_se se_int) sa_nil))) (sa_cons (so_of_se (se_tup (sa_cons (so_of_se se_int) (sa_cons (so_of_se se_int) sa_nil)))) (sa_cons (so_of_se (se_tup (sa_cons (so_of_se se_int) (sa_cons (so_of_se se_int) (sa_cons (so_of_se se_int) sa_nil))))) (sa_cons (so_of_se (se_tup (sa_cons (so_of_se se_int) (sa_cons (so_of_se se_int) sa_nil)))) (sa_cons (so_of_se (se_tup (sa_cons (so_of_se se_int) (sa_cons (so_of_se se_int) (sa_cons (so_of_se se_int) sa_nil))))) (sa_cons (so_of_se (se_tup (sa_cons (so_of_se se_int) (sa_cons (so_of_se se_int) (sa_cons (so_of_se se_int) (sa_cons (so_of_se se_int) sa_nil)))))) (sa_cons (so_of_se (se_tup (sa_cons (so_of_se se_int) (sa_cons (so_of_se se_int) (sa_cons (so_of_se se_int) (sa_cons (so_of_se se_int) (sa_cons (so_of_se se_int) sa_nil))))))) (sa_cons (so_of_se (se_tup (sa_cons (so_of_se se_int) (sa_cons (so_of_se se_int) (sa_cons (so_of_se se_int) (sa_cons (so_of_se se_int) (sa_cons (so_of_se se_int) (sa_cons (so_of_se se_int) (sa_cons (so_of_se se_int) (sa_cons (so_of_se se_int) (sa_cons (so_of_se se_int) (sa_cons (so_of_se se_int) sa_nil)))))))))))) sa_nil))))))))))) (ss_cons (ss_par (i := 2) (j := 3) rfl sc_x_law_some.nd rfl rfl (by decide) rfl rfl (sa_cons (so_of_se (se_call (calR_fn (ok_x_law_choose G) (hr.mono (by decide)) tk) rfl G.g_x_law_choose G.kp_x_law_choose (sa_cons (so_name 0 rfl (by first | exact .inl rfl | exact .inr (.inl rfl) | exact .inr (.inr rfl) | exact .inr rfl)) (sa_cons (so_name 2 rfl (by first | exact .inl rfl | exact .inr (.inl rfl) | exact .inr (.inr rfl) | exact .inr rfl)) sa_nil)))) (sa_cons (so_of_se (se_call (calR_fn (ok_x_law_choose G) (hr.mono (by decide)) tk) rfl G.g_x_law_choose G.kp_x_law_choose (sa_cons (so_name 0 rfl (by first | exact .inl rfl | exact .inr (.inl rfl) | exact .inr (.inr rfl) | exact .inr rfl)) (sa_cons (so_of_se (se_of_sn (sn_lst (sa_cons (so_of_se se_str) (sa_cons (so_of_se se_str) (sa_cons (so_of_se se_str) (sa_cons (so_of_se se_str) (sa_cons (so_of_se se_str) sa_nil)))))))) sa_nil)))) sa_nil)) rfl) (ss_cons (ss_setN 4 sc_x_law_some.nd rfl (by first | exact .inl rfl | exact .inr (.inl rfl) | exact .inr (.inr rfl) | exact .inr rfl) (sn_lst sa_nil)) (ss_cons (ss_for po rfl (si_range1 rfl G.b_range (sa_cons (so_of_se (se_op2 ow_add (so_of_se se_int) (so_of_se (se_call (calR_fn (ok_x_law_draw G) (hr.mono (by decide)) tk) rfl G.g_x_law_draw G.kp_x_law_draw (sa_cons (so_name 0 rfl (by first | exact .inl rfl | exact .inr (.inl rfl) | exact .inr (.inr rfl) | exact .inr rfl)) (sa_cons (so_name 1 rfl (by first | exact .inl rfl | exact .inr (.inl rfl) | exact .inr (.inr rfl) | exact .inr rfl)) sa_nil)))))) sa_nil)) (sg_nm 5 sc_x_law_some.nd rfl (by first | exact .inl rfl | exact .inr (.inl rfl) | exact .inr (.inr rfl) | exact .inr rfl)) (ss_cons (ss_set 6 sc_x_law_some.nd rfl (by first | exact .inl rfl | exact .inr (.inl rfl) | exact .inr (.inr rfl) | exact .inr rfl) (se_tup (sa_cons (so_of_se (se_call (calR_fn (ok_x_law_choose G) (hr.mono (by decide)) tk) rfl G.g_x_law_choose G.kp_x_law_choose (sa_cons (so_name 0 rfl (by first | exact .inl rfl | exact .inr (.inl rfl) | exact .inr (.inr rfl) | exact .inr rfl)) (sa_cons (so_name 3 rfl (by first | exact .inl rfl | exact .inr (.inl rfl) | exact .inr (.inr rfl) | exact .inr rfl)) sa_nil)))) (sa_cons (so_of_se (se_call (calR_fn (ok_x_law_choose G) (hr.mono (by decide)) tk) rfl G.g_x_law_choose G.kp_x_law_choose (sa_cons (so_name 0 rfl (by first | exact .inl rfl | exact .inr (.inl rfl) | exact .inr (.inr rfl) | exact .inr rfl)) (sa_cons (so_name 2 rfl (by first | exact .inl rfl | exact .inr (.inl rfl) | exact .inr (.inr rfl) | exact .inr rfl)) sa_nil)))) (sa_cons (so_of_se (se_call (calR_fn (ok_x_law_choose G) (hr.mono (by decide)) tk) rfl G.g_x_law_choose G.kp_x_law_choose (sa_cons (so_name 0 rfl (by first | exact .inl rfl | exact .inr (.inl rfl) | exact .inr (.inr rfl) | exact .inr rfl)) (sa_cons (so_name 2 rfl (by first | exact .inl rfl | exact .inr (.inl rfl) | exact .inr (.inr rfl) | exact .inr rfl)) sa_nil)))) sa_nil))))) (ss_cons (ss_if (sb_w (sw_and (sb_cmp (ow_ne hr.units) (so_name 4 rfl (by first | exact .inl rfl | exact .inr (.inl rfl) | exact .inr (.inr rfl) | exact .inr rfl)) (so_of_se (se_of_sn (sn_lst sa_nil))) (nomark _)) (sw_and1 (sb_cmp (ow_eq hr.units) (so_of_se (se_call (calR_fn (ok_x_law_draw G) (hr.mono (by decide)) tk) rfl G.g_x_law_draw G.kp_x_law_draw (sa_cons (so_name 0 rfl (by first | exact .inl rfl | exact .inr (.inl rfl) | exact .inr (.inr rfl) | exact .inr rfl)) (sa_cons (so_of_se se_int) sa_nil)))) (so_of_se se_int) (nomark _))))) (ss_one (ss_set 6 sc_x_law_some.nd rfl (by first | exact .inl rfl | exact .inr (.inl rfl) | exact .inr (.inr rfl) | exact .inr rfl) (se_call (calR_fn (ok_x_law_choose G) (hr.mono (by decide)) tk) rfl G.g_x_law_choose G.kp_x_law_choose (sa_cons (so_name 0 rfl (by first | exact .inl rfl | exact .inr (.inl rfl) | exact .inr (.inr rfl) | exact .inr rfl)) (sa_cons (so_name 4 rfl (by first | exact .inl rfl | exact .inr (.inl rfl) | exact .inr (.inr rfl) | exact .inr rfl)) sa_nil))))) ss_nil) (ss_cons (ss_if (sb_w (sw_and (sb_cmp (ow_ne hr.units) (so_name 4 rfl (by first | exact .inl rfl | exact .inr (.inl rfl) | exact .inr (.inr rfl) | exact .inr rfl)) (so_of_se (se_of_sn (sn_lst sa_nil))) (nomark _)) (sw_and1 (sb_cmp (ow_eq hr.units) (so_of_se (se_call (calR_fn (ok_x_law_draw G) (hr.mono (by decide)) tk) rfl G.g_x_law_draw G.kp_x_law_draw (sa_cons (so_name 0 rfl (by first | exact .inl rfl | exact .inr (.inl rfl) | exact .inr (.inr rfl) | exact .inr rfl)) (sa_cons (so_of_se se_int) sa_nil)))) (so_of_se se_int) (nomark _))))) (ss_one (ss_set 6 sc_x_law_some.nd rfl (by first | exact .inl rfl | exact .inr (.inl rfl) | exact .inr (.inr rfl) | exact .inr rfl) (se_tup (sa_cons (so_of_se (se_ix ow_ix (so_name 6 rfl (by first | exact .inl rfl | exact .inr (.inl rfl) | exact .inr (.inr rfl) | exact .inr rfl)) (so_of_se se_int) (fun _ _ => rfl))) (sa_cons (so_of_se (se_ix ow_ix (so_of_se (se_ix ow_ix (so_name 4 rfl (by first | exact .inl rfl | exact .inr (.inl rfl) | exact .inr (.inr rfl) | exact .inr rfl)) (so_of_se (se_op1 ow_neg (so_of_se se_int))) (fun _ _ => rfl))) (so_of_se se_int) (fun _ _ => rfl))) (sa_cons (so_of_se (se_ix ow_ix (so_name 6 rfl (by first | exact .inl rfl | exact .inr (.inl rfl) | exact .inr (.inr rfl) | exact .inr rfl)) (so_of_se se_int) (fun _ _ => rfl))) sa_nil)))))) ss_nil) (ss_one (ss_expr (se_wm 4 PySem.F.plainAttrs_list PySem.F.slot_list_append PySem.F.type_list_append cm_append rfl (by first | exact .inl rfl | exact .inr (.inl rfl) | exact .inr (.inr rfl) | exact .inr rfl) (sa_cons (so_name 6 rfl (by first | exact .inl rfl | exact .inr (.inl rfl) | exact .inr (.inr rfl) | exact .inr rfl)) sa_nil)))))))) (ss_one (ss_ret (se_of_so (so_name 4 rfl (by first | exact .inl rfl | exact .inr (.inl rfl) | exact .inr (.inr rfl) | exact .inr rfl)))))))))
def m_x_law_near : M Fl :=
  (mSeq (mPar 2 3 (mCons (mVa ((mCons (mNm 0) (mCons (mVa (mOp2 dAdd (mVa (mCall dLen (mCons (mNm 1) (M.ret [])))) (mVa (M.ret (.int 1))))) (M.ret []))).bind (mCallF [.mu, .im] f_x_law_draw))) (mCons (mVa ((mCons (mNm 0) (mCons (mVa (M.ret (.str "0129BACDab -+.,:;
_"))) (M.ret []))).bind (mCallF [.mu, .ro] f_x_law_choose))) (M.ret []))))
    (mSeq (mSetN 4 (mLst (mCons (mVa (mOp2 dAdd (mVa (mSl (mNm 1) (M.ret none) ((mFz 2).bind dSome))) (mVa (mSl (mNm 1) ((mOp2 dAdd (mNm 2) (mVa (M.ret (.int 1)))).bind dSome) (M.ret none))))) (mCons (mVa (mOp2 dAdd (mVa (mOp2 dAdd (mVa (mSl (mNm 1) (M.ret none) ((mFz 2).bind dSome))) (mNm 3))) (mVa (mSl (mNm 1) ((mFz 2).bind dSome) (M.ret none))))) (mCons (mVa (mOp2 dAdd (mVa (mOp2 dAdd (mVa (mSl (mNm 1) (M.ret none) ((mFz 2).bind dSome))) (mNm 3))) (mVa (mSl (mNm 1) ((mOp2 dAdd (mNm 2) (mVa (M.ret (.int 1)))).bind dSome) (M.ret none))))) (M.ret []))))))
    (mSeq (mSetN 4 (mOp2 dCatL (mNm 4) (mVa (mLst (mCons (mVa (mOp2 dAdd (mVa (mOp2 dAdd (mNm 1) (mVa (M.ret (.str " "))))) (mNm 1))) (mCons (mVa (mMtK0 "str" fLower (mNm 1))) (mCons (mVa (mOp2 dAdd (mVa (M.ret (.str " "))) (mNm 1))) (mCons (mVa (mOp2 dAdd (mNm 1) (mVa (M.ret (.str " "))))) (mCons (mVa (mOp2 dAdd (mNm 1) (mVa (M.ret (.str "
"))))) (mCons (mVa (mOp1 dRevS (mNm 1))) (M.ret [])))))))))))
    (mSeq ((mWm "list" 4 fAppend (mCons (mVa (mOp1 (dRepl " " "  ") (mNm 1))) (M.ret []))).bind fun _ => M.ret .nx)
    ((mOp2 dAdd (mNm 4) (mVa (mLst (mCons (mVa (mOp1 (dRepl "A" "B") (mNm 1))) (mCons (mVa (mOp1 (dRepl "A" "D") (mNm 1))) (mCons (mVa (mSl (mNm 1) (M.ret none) ((M.ret (.int 3)).bind dSome))) (mCons (mVa (mSl (mNm 1) ((M.ret (.int 1)).bind dSome) (M.ret none))) (mCons (mVa (mOp1 (dRepl " " "
") (mNm 1))) (M.ret []))))))))).bind fun d => M.ret (.rt d))))))
def f_x_law_near : Fn := runDef [.mu, .im] 5 m_x_law_near
theorem sc_x_law_near : FnScope ["_law_source_here", "_law_text", "_law_at", "_law_sign", "_law_found"] ["_law_source_here", "_law_text"] (defScope (top 57)) := ⟨rfl, rfl, rfl, by decide +kernel, rfl, by decide +kernel, by decide +kernel⟩
theorem ok_x_law_near (G : Gt K mg) : FnR P w K mg base (L2.CX P w) 3 (He.ga K "_law_near") (spF K [.mu, .im] f_x_law_near) := by
  obtain ⟨fd, F⟩ := G.d_x_law_near
  exact fnr (N := ["_law_source_here", "_law_text", "_law_at", "_law_sign", "_law_found"]) (ps := ["_law_source_here", "_law_text"]) (ms := [.mu, .im]) (m := m_x_law_near) F sc_x_law_near rfl (fun _ _ _ _ _ _ us hl => match us, hl with | [_, _], _ => rfl) fun cdv A outer s H E hr tk po =>
    (ss_cons (ss_par (i := 2) (j := 3) rfl sc_x_law_near.nd rfl rfl (by decide) rfl rfl (sa_cons (so_of_se (se_call (calR_fn (ok_x_law_draw G) (hr.mono (by decide)) tk) rfl G.g_x_law_draw G.kp_x_law_draw (sa_cons (so_name 0 rfl (by first | exact .inl rfl | exact .inr (.inl rfl) | exact .inr (.inr rfl) | exact .inr rfl)) (sa_cons (so_of_se (se_op2 ow_add (so_of_se (se_callB cw_len rfl G.b_len (by decide +kernel) (sa_cons (so_name 1 rfl (by first | exact .inl rfl | exact .inr (.inl rfl) | exact .inr (.inr rfl) | exact .inr rfl)) sa_nil))) (so_of_se se_int))) sa_nil)))) (sa_cons (so_of_se (se_call (calR_fn (ok_x_law_choose G) (hr.mono (by decide)) tk) rfl G.g_x_law_choose G.kp_x_law_choose (sa_cons (so_name 0 rfl (by first | exact .inl rfl | exact .inr (.inl rfl) | exact .inr (.inr rfl) | exact .inr rfl)) (sa_cons (so_of_se se_str) sa_nil)))) sa_nil)) rfl) (ss_cons (ss_setN 4 sc_x_law_near.nd rfl (by first | exact .inl rfl | exact .inr (.inl rfl) | exact .inr (.inr rfl) | exact .inr rfl) (sn_lst (sa_cons (so_of_se (se_op2 ow_add (so_of_se (se_slice (so_name 1 rfl (by first | exact .inl rfl | exact .inr (.inl rfl) | exact .inr (.inr rfl) | exact .inr rfl)) spo_none (spo_some (se_of_so (so_name 2 rfl (by first | exact .inl rfl | exact .inr (.inl rfl) | exact .inr (.inr rfl) | exact .inr rfl)))))) (so_of_se (se_slice (so_name 1 rfl (by first | exact .inl rfl | exact .inr (.inl rfl) | exact .inr (.inr rfl) | exact .inr rfl)) (spo_some (se_op2 ow_add (so_name 2 rfl (by first | exact .inl rfl | exact .inr (.inl rfl) | exact .inr (.inr rfl) | exact .inr rfl)) (so_of_se se_int))) spo_none)))) (sa_cons (so_of_se (se_op2 ow_add (so_of_se (se_op2 ow_add (so_of_se (se_slice (so_name 1 rfl (by first | exact .inl rfl | exact .inr (.inl rfl) | exact .inr (.inr rfl) | exact .inr rfl)) spo_none (spo_some (se_of_so (so_name 2 rfl (by first | exact .inl rfl | exact .inr (.inl rfl) | exact .inr (.inr rfl) | exact .inr rfl)))))) (so_name 3 rfl (by first | exact .inl rfl | exact .inr (.inl rfl) | exact .inr (.inr rfl) | exact .inr rfl)))) (so_of_se (se_slice (so_name 1 rfl (by first | exact .inl rfl | exact .inr (.inl rfl) | exact .inr (.inr rfl) | exact .inr rfl)) (spo_some (se_of_so (so_name 2 rfl (by first | exact .inl rfl | exact .inr (.inl rfl) | exact .inr (.inr rfl) | exact .inr rfl)))) spo_none)))) (sa_cons (so_of_se (se_op2 ow_add (so_of_se (se_op2 ow_add (so_of_se (se_slice (so_name 1 rfl (by first | exact .inl rfl | exact .inr (.inl rfl) | exact .inr (.inr rfl) | exact .inr rfl)) spo_none (spo_some (se_of_so (so_name 2 rfl (by first | exact .inl rfl | exact .inr (.inl rfl) | exact .inr (.inr rfl) | exact .inr rfl)))))) (so_name 3 rfl (by first | exact .inl rfl | exact .inr (.inl rfl) | exact .inr (.inr rfl) | exact .inr rfl)))) (so_of_se (se_slice (so_name 1 rfl (by first | exact .inl rfl | exact .inr (.inl rfl) | exact .inr (.inr rfl) | exact .inr rfl)) (spo_some (se_op2 ow_add (so_name 2 rfl (by first | exact .inl rfl | exact .inr (.inl rfl) | exact .inr (.inr rfl) | exact .inr rfl)) (so_of_se se_int))) spo_none)))) sa_nil))))) (ss_setNK 4 sc_x_law_near.nd rfl (by first | exact .inl rfl | exact .inr (.inl rfl) | exact .inr (.inr rfl) | exact .inr rfl) (snk_opR on_cat (so_name 4 rfl (by first | exact .inl rfl | exact .inr (.inl rfl) | exact .inr (.inr rfl) | exact .inr rfl)) (sok_ofN (snk_lst (sak_head (sok_of (sek_opL ow_add (sok_of (sek_opC ow_add (so_name 1 rfl (by first | exact .inl rfl | exact .inr (.inl rfl) | exact .inr (.inr rfl) | exact .inr rfl)))) (so_name 1 rfl (by first | exact .inl rfl | exact .inr (.inl rfl) | exact .inr (.inr rfl) | exact .inr rfl)))) (sa_cons (so_of_se (se_bm0 PySem.F.plainAttrs_str PySem.F.slot_str_lower PySem.F.type_str_lower mw_lower (so_name 1 rfl (by first | exact .inl rfl | exact .inr (.inl rfl) | exact .inr (.inr rfl) | exact .inr rfl)))) (sa_cons (so_of_se (se_op2 ow_add (so_of_se se_str) (so_name 1 rfl (by first | exact .inl rfl | exact .inr (.inl rfl) | exact .inr (.inr rfl) | exact .inr rfl)))) (sa_cons (so_of_se (se_op2 ow_add (so_name 1 rfl (by first | exact .inl rfl | exact .inr (.inl rfl) | exact .inr (.inr rfl) | exact .inr rfl)) (so_of_se se_str))) (sa_cons (so_of_se (se_op2 ow_add (so_name 1 rfl (by first | exact .inl rfl | exact .inr (.inl rfl) | exact .inr (.inr rfl) | exact .inr rfl)) (so_of_se se_str))) (sa_cons (so_of_se (se_revS (so_name 1 rfl (by first | exact .inl rfl | exact .inr (.inl rfl) | exact .inr (.inr rfl) | exact .inr rfl)))) sa_nil))))))))) (sst_expr (set_wm 4 PySem.F.plainAttrs_list PySem.F.slot_list_append PySem.F.type_list_append cm_append rfl (by first | exact .inl rfl | exact .inr (.inl rfl) | exact .inr (.inr rfl) | exact .inr rfl) (sat_cons (sot_repl (so_name 1 rfl (by first | exact .inl rfl | exact .inr (.inl rfl) | exact .inr (.inr rfl) | exact .inr rfl))) (sa_T sa_nil))) (sst_ret (set_op2 ow_add (so_T (so_name 4 rfl (by first | exact .inl rfl | exact .inr (.inl rfl) | exact .inr (.inr rfl) | exact .inr rfl))) (sot_ofN (snt_lst (sat_cons (sot_repl (so_name 1 rfl (by first | exact .inl rfl | exact .inr (.inl rfl) | exact .inr (.inr rfl) | exact .inr rfl))) (sat_cons (sot_repl (so_name 1 rfl (by first | exact .inl rfl | exact .inr (.inl rfl) | exact .inr (.inr rfl) | exact .inr rfl))) (sat_cons (so_T (so_of_se (se_slice (so_name 1 rfl (by first | exact .inl rfl | exact .inr (.inl rfl) | exact .inr (.inr rfl) | exact .inr rfl)) spo_none (spo_some se_int)))) (sat_cons (so_T (so_of_se (se_slice (so_name 1 rfl (by first | exact .inl rfl | exact .inr (.inl rfl) | exact .inr (.inr rfl) | exact .inr rfl)) (spo_some se_int) spo_none))) (sat_cons (sot_repl (so_name 1 rfl (by first | exact .inl rfl | exact .inr (.inl rfl) | exact .inr (.inr rfl) | exact .inr rfl))) (sa_T sa_nil))))))))))))))
theorem sc_x_law_read : FnScope ["_law_text", "_law_words_here", "_law_word"] ["_law_text"] (defScope (top 55)) := ⟨rfl, rfl, rfl, by decide +kernel, rfl, by decide +kernel, by decide +kernel⟩
theorem ok_x_law_read (G : Gt K mg) : FnR P w K mg base (L2.CX P w) 1 (He.ga K "_law_read") (spF K [.im] f_x_law_read) := by
  obtain ⟨fd, F⟩ := G.d_x_law_read
  exact fnr (N := ["_law_text", "_law_words_here", "_law_word"]) (ps := ["_law_text"]) (ms := [.im]) (m := m_x_law_read) F sc_x_law_read rfl (fun _ _ _ _ _ _ us hl => match us, hl with | [_], _ => rfl) fun cdv A outer s H E hr tk po =>
    (ss_cons (ss_if (sb_not (sb_val (se_isi rfl G.b_isinstance G.k_str (so_name 0 rfl (by first | exact .inl rfl | exact .inr (.inl rfl) | exact .inr (.inr rfl) | exact .inr rfl)) (te_ty rfl G.b_str (by decide +kernel))))) (ss_one (ss_ret se_non)) ss_nil) (ss_cons (ss_set 1 sc_x_law_read.nd rfl (by first | exact .inl rfl | exact .inr (.inl rfl) | exact .inr (.inr rfl) | exact .inr rfl) (se_bm PySem.F.plainAttrs_str PySem.F.slot_str_split PySem.F.type_str_split mw_split (so_name 0 rfl (by first | exact .inl rfl | exact .inr (.inl rfl) | exact .inr (.inr rfl) | exact .inr rfl)) (sa_cons (so_of_se se_str) sa_nil))) (ss_cons (ss_if (sb_cmp (owI op_gt) (so_of_se (se_callB cw_len rfl G.b_len (by decide +kernel) (sa_cons (so_name 1 rfl (by first | exact .inl rfl | exact .inr (.inl rfl) | exact .inr (.inr rfl) | exact .inr rfl)) sa_nil))) (so_of_se se_int) (nomark _)) (ss_one (ss_ret se_non)) ss_nil) (ss_cons (ss_for po rfl (si_nm 1 rfl (by first | exact .inl rfl | exact .inr (.inl rfl) | exact .inr (.inr rfl) | exact .inr rfl)) (sg_nm 2 sc_x_law_read.nd rfl (by first | exact .inl rfl | exact .inr (.inl rfl) | exact .inr (.inr rfl) | exact .inr rfl)) (ss_one (ss_if (sb_w (sw_or (sb_cmp (ow_ne hr.units) (so_of_se (se_callB cw_len rfl G.b_len (by decide +kernel) (sa_cons (so_name 2 rfl (by first | exact .inl rfl | exact .inr (.inl rfl) | exact .inr (.inr rfl) | exact .inr rfl)) sa_nil))) (so_of_se se_int) (nomark _)) (sw_or (sb_cmp (ow_notIn hr.u65) (so_of_se (se_ix ow_ix (so_name 2 rfl (by first | exact .inl rfl | exact .inr (.inl rfl) | exact .inr (.inr rfl) | exact .inr rfl)) (so_of_se se_int) (fun _ _ => rfl))) (so_of_se se_str) rfl) (sw_or (sb_cmp (ow_notIn hr.u65) (so_of_se (se_ix ow_ix (so_name 2 rfl (by first | exact .inl rfl | exact .inr (.inl rfl) | exact .inr (.inr rfl) | exact .inr rfl)) (so_of_se se_int) (fun _ _ => rfl))) (so_of_se se_str) rfl) (sw_or1 (sb_cmp (ow_notIn hr.u65) (so_of_se (se_ix ow_ix (so_name 2 rfl (by first | exact .inl rfl | exact .inr (.inl rfl) | exact .inr (.inr rfl) | exact .inr rfl)) (so_of_se se_int) (fun _ _ => rfl))) (so_of_se se_str) rfl)))))) (ss_one (ss_ret se_non)) ss_nil))) (ss_one (ss_ret (se_callTy cw_tuple rfl G.b_tuple (by decide +kernel) (sa_cons (so_of_se (se_of_sn (sn_lc (own := [("_law_word", 2)]) rfl sc_x_law_read.nd (si_nm 1 rfl (by first | exact .inl rfl | exact .inr (.inl rfl) | exact .inr (.inr rfl) | exact .inr rfl)) (blkOk_by rfl) (fun _ _ _ _ _ => (sg_nm 2 sc_x_law_read.nd rfl (by first | exact .inl rfl | exact .inr (.inl rfl) | exact .inr (.inr rfl) | exact .inr rfl))) (fun _ _ _ _ _ => st_nil) (fun _ _ _ _ _ => (se_tup (sa_cons (so_of_se (se_ix ow_ix (so_name 2 rfl (by first | exact .inl rfl | exact .inr (.inl rfl) | exact .inr (.inr rfl) | exact .inr rfl)) (so_of_se se_int) (fun _ _ => rfl))) (sa_cons (so_of_se (se_callTy cw_int rfl G.b_int (by decide +kernel) (sa_cons (so_of_se (se_ix ow_ix (so_name 2 rfl (by first | exact .inl rfl | exact .inr (.inl rfl) | exact .inr (.inr rfl) | exact .inr rfl)) (so_of_se se_int) (fun _ _ => rfl))) sa_nil))) (sa_cons (so_of_se (se_callTy cw_int rfl G.b_int (by decide +kernel) (sa_cons (so_of_se (se_ix ow_ix (so_name 2 rfl (by first | exact .inl rfl | exact .inr (.inl rfl) | exact .inr (.inr rfl) | exact .inr rfl)) (so_of_se se_int) (fun _ _ => rfl))) sa_nil))) sa_nil)))))))) sa_nil))))))))
theorem sc_variables_of : FnScope ["atoms", "atom"] ["atoms"] (defScope (top 38)) := ⟨rfl, rfl, rfl, by decide +kernel, rfl, by decide +kernel, by decide +kernel⟩
theorem ok_variables_of (G : Gt K mg) : FnR P w K mg base (L2.CX P w) 1 (He.ga K "variables_of") (spF K [.im] f_variables_of) := by
  obtain ⟨fd, F⟩ := G.d_variables_of
  exact fnr (N := ["atoms", "atom"]) (ps := ["atoms"]) (ms := [.im]) (m := m_variables_of) F sc_variables_of rfl (fun _ _ _ _ _ _ us hl => match us, hl with | [_], _ => rfl) fun cdv A outer s H E hr tk po =>
    (ss_one (ss_ret (se_callTy cw_tuple rfl G.b_tuple (by decide +kernel) (sa_cons (so_of_se (se_of_sn (sn_sortSet rfl rfl G.b_sorted rfl G.b_set (so_of_se (se_op2 ow_add (so_of_se (se_of_sn (sn_lc (own := [("atom", 1)]) rfl sc_variables_of.nd (si_nm 0 rfl (by first | exact .inl rfl | exact .inr (.inl rfl) | exact .inr (.inr rfl) | exact .inr rfl)) (blkOk_by rfl) (fun _ _ _ _ _ => (sg_nm 1 sc_variables_of.nd rfl (by first | exact .inl rfl | exact .inr (.inl rfl) | exact .inr (.inr rfl) | exact .inr rfl))) (fun _ _ _ _ _ => st_nil) (fun _ _ _ _ _ => (se_ix ow_ix (so_name 1 rfl (by first | exact .inl rfl | exact .inr (.inl rfl) | exact .inr (.inr rfl) | exact .inr rfl)) (so_of_se se_int) (fun _ _ => rfl)))))) (so_of_se (se_of_sn (sn_lc (own := [("atom", 1)]) rfl sc_variables_of.nd (si_nm 0 rfl (by first | exact .inl rfl | exact .inr (.inl rfl) | exact .inr (.inr rfl) | exact .inr rfl)) (blkOk_by rfl) (fun _ _ _ _ _ => (sg_nm 1 sc_variables_of.nd rfl (by first | exact .inl rfl | exact .inr (.inl rfl) | exact .inr (.inr rfl) | exact .inr rfl))) (fun _ _ _ _ _ => st_nil) (fun _ _ _ _ _ => (se_ix ow_ix (so_name 1 rfl (by first | exact .inl rfl | exact .inr (.inl rfl) | exact .inr (.inr rfl) | exact .inr rfl)) (so_of_se se_int) (fun _ _ => rfl))))))))))) sa_nil))))
theorem sc_Question___repr : FnScope ["self"] ["self"] (defScope (mth 43 13)) := ⟨rfl, rfl, rfl, by decide +kernel, rfl, by decide +kernel, by decide +kernel⟩
theorem ok_Question___repr (G : Gt K mg) : FnR P w K mg base (L2.CX P w) 2 (He.ma K (ca K 1) "__repr__") (spF K [.im] f_Question___repr) := by
  obtain ⟨fd, F⟩ := G.d_Question___repr
  exact fnr (N := ["self"]) (ps := ["self"]) (ms := [.im]) (m := m_Question___repr) F sc_Question___repr rfl (fun _ _ _ _ _ _ us hl => match us, hl with | [_], _ => rfl) fun cdv A outer s H E hr tk po =>
    (ss_one (ss_ret (se_joined (sj_cons se_str (sj_cons (se_fmt (so_of_se (se_callB cw_len rfl G.b_len (by decide +kernel) (sa_cons (so_of_se (se_fld 0 G.fl_1_kept (so_name 0 rfl (by first | exact .inl rfl | exact .inr (.inl rfl) | exact .inr (.inr rfl) | exact .inr rfl)))) sa_nil)))) (sj_cons se_str (sj_cons (se_fmt (so_of_se (se_callB cw_len rfl G.b_len (by decide +kernel) (sa_cons (so_of_se (se_call (calR_fn (ok_variables_of G) (hr.mono (by decide)) tk) rfl G.g_variables_of G.kp_variables_of (sa_cons (so_of_se (se_fld 0 G.fl_1_kept (so_name 0 rfl (by first | exact .inl rfl | exact .inr (.inl rfl) | exact .inr (.inr rfl) | exact .inr rfl)))) sa_nil))) sa_nil)))) (sj_cons se_str sj_nil))))))))
theorem sc_atom_of_word : FnScope ["word"] ["word"] (defScope (top 37)) := ⟨rfl, rfl, rfl, by decide +kernel, rfl, by decide +kernel, by decide +kernel⟩
theorem ok_atom_of_word (G : Gt K mg) : FnR P w K mg base (L2.CX P w) 1 (He.ga K "atom_of_word") (spF K [.im] f_atom_of_word) := by
  obtain ⟨fd, F⟩ := G.d_atom_of_word
  exact fnr (N := ["word"]) (ps := ["word"]) (ms := [.im]) (m := m_atom_of_word) F sc_atom_of_word rfl (fun _ _ _ _ _ _ us hl => match us, hl with | [_], _ => rfl) fun cdv A outer s H E hr tk po =>
    (ss_cons (ss_if (sb_w (sw_or (sb_cmp (ow_ne hr.units) (so_of_se (se_callB cw_len rfl G.b_len (by decide +kernel) (sa_cons (so_name 0 rfl (by first | exact .inl rfl | exact .inr (.inl rfl) | exact .inr (.inr rfl) | exact .inr rfl)) sa_nil))) (so_of_se se_int) (nomark _)) (sw_or (sb_cmp (ow_notIn hr.u65) (so_of_se (se_ix ow_ix (so_name 0 rfl (by first | exact .inl rfl | exact .inr (.inl rfl) | exact .inr (.inr rfl) | exact .inr rfl)) (so_of_se se_int) (fun _ _ => rfl))) (so_of_se (se_gstr rfl G.c_DIGITS)) rfl) (sw_or1 (sb_cmp (ow_notIn hr.u65) (so_of_se (se_ix ow_ix (so_name 0 rfl (by first | exact .inl rfl | exact .inr (.inl rfl) | exact .inr (.inr rfl) | exact .inr rfl)) (so_of_se se_int) (fun _ _ => rfl))) (so_of_se (se_gstr rfl G.c_DIGITS)) rfl))))) (ss_one (ss_ret (se_tup sa_nil))) ss_nil) (ss_one (ss_ret (se_tup (sa_cons (so_of_se (se_ix ow_ix (so_name 0 rfl (by first | exact .inl rfl | exact .inr (.inl rfl) | exact .inr (.inr rfl) | exact .inr rfl)) (so_of_se se_int) (fun _ _ => rfl))) (sa_cons (so_of_se (se_callTy cw_int rfl G.b_int (by decide +kernel) (sa_cons (so_of_se (se_ix ow_ix (so_name 0 rfl (by first | exact .inl rfl | exact .inr (.inl rfl) | exact .inr (.inr rfl) | exact .inr rfl)) (so_of_se se_int) (fun _ _ => rfl))) sa_nil))) (sa_cons (so_of_se (se_callTy cw_int rfl G.b_int (by decide +kernel) (sa_cons (so_of_se (se_ix ow_ix (so_name 0 rfl (by first | exact .inl rfl | exact .inr (.inl rfl) | exact .inr (.inr rfl) | exact .inr rfl)) (so_of_se se_int) (fun _ _ => rfl))) sa_nil))) sa_nil)))))))
theorem sc_is_kind : FnScope ["thing"] ["thing"] (defScope (top 19)) := ⟨rfl, rfl, rfl, by decide +kernel, rfl, by decide +kernel, by decide +kernel⟩
theorem ok_is_kind (G : Gt K mg) : FnR P w K mg base (L2.CX P w) 1 (He.ga K "is_kind") (spF K [.im] f_is_kind) := by
  obtain ⟨fd, F⟩ := G.d_is_kind
  exact fnr (N := ["thing"]) (ps := ["thing"]) (ms := [.im]) (m := m_is_kind) F sc_is_kind rfl (fun _ _ _ _ _ _ us hl => match us, hl with | [_], _ => rfl) fun cdv A outer s H E hr tk po =>
    (ss_one (ss_ret (se_and (se_isi rfl G.b_isinstance G.k_str (so_name 0 rfl (by first | exact .inl rfl | exact .inr (.inl rfl) | exact .inr (.inr rfl) | exact .inr rfl)) (te_ty rfl G.b_str (by decide +kernel))) (se_one (se_cmp (ow_in hr.u65) (so_name 0 rfl (by first | exact .inl rfl | exact .inr (.inl rfl) | exact .inr (.inr rfl) | exact .inr rfl)) (so_of_se (se_gtup (xs := ["A", "B", "C"]) rfl G.t_KINDS G.g_KINDS)) rfl)))))
theorem sc_is_integer : FnScope ["thing"] ["thing"] (defScope (top 17)) := ⟨rfl, rfl, rfl, by decide +kernel, rfl, by decide +kernel, by decide +kernel⟩
theorem ok_is_integer (G : Gt K mg) : FnR P w K mg base (L2.CX P w) 1 (He.ga K "is_integer") (spF K [.im] f_is_integer) := by
  obtain ⟨fd, F⟩ := G.d_is_integer
  exact fnr (N := ["thing"]) (ps := ["thing"]) (ms := [.im]) (m := m_is_integer) F sc_is_integer rfl (fun _ _ _ _ _ _ us hl => match us, hl with | [_], _ => rfl) fun cdv A outer s H E hr tk po =>
    (ss_one (ss_ret (se_and (se_isi rfl G.b_isinstance G.k_int (so_name 0 rfl (by first | exact .inl rfl | exact .inr (.inl rfl) | exact .inr (.inr rfl) | exact .inr rfl)) (te_ty rfl G.b_int (by decide +kernel))) (se_one (se_not (se_isi rfl G.b_isinstance G.k_bool (so_name 0 rfl (by first | exact .inl rfl | exact .inr (.inl rfl) | exact .inr (.inr rfl) | exact .inr rfl)) (te_ty rfl G.b_bool (by decide +kernel))))))))
theorem sc_is_between : FnScope ["thing", "low", "high"] ["thing", "low", "high"] (defScope (top 18)) := ⟨rfl, rfl, rfl, by decide +kernel, rfl, by decide +kernel, by decide +kernel⟩
theorem ok_is_between (G : Gt K mg) : FnR P w K mg base (L2.CX P w) 2 (He.ga K "is_between") (spF K [.im, .im, .im] f_is_between) := by
  obtain ⟨fd, F⟩ := G.d_is_between
  exact fnr (N := ["thing", "low", "high"]) (ps := ["thing", "low", "high"]) (ms := [.im, .im, .im]) (m := m_is_between) F sc_is_between rfl (fun _ _ _ _ _ _ us hl => match us, hl with | [_, _, _], _ => rfl) fun cdv A outer s H E hr tk po =>
    (ss_one (ss_ret (se_and (se_call (calR_fn (ok_is_integer G) (hr.mono (by decide)) tk) rfl G.g_is_integer G.kp_is_integer (sa_cons (so_name 0 rfl (by first | exact .inl rfl | exact .inr (.inl rfl) | exact .inr (.inr rfl) | exact .inr rfl)) sa_nil)) (se_one (se_chain (owI op_le) (owI op_le) (so_name 1 rfl (by first | exact .inl rfl | exact .inr (.inl rfl) | exact .inr (.inr rfl) | exact .inr rfl)) (so_name 0 rfl (by first | exact .inl rfl | exact .inr (.inl rfl) | exact .inr (.inr rfl) | exact .inr rfl)) (so_name 2 rfl (by first | exact .inl rfl | exact .inr (.inl rfl) | exact .inr (.inr rfl) | exact .inr rfl)))))))
theorem sc_is_atom : FnScope ["thing"] ["thing"] (defScope (top 35)) := ⟨rfl, rfl, rfl, by decide +kernel, rfl, by decide +kernel, by decide +kernel⟩
theorem ok_is_atom (G : Gt K mg) : FnR P w K mg base (L2.CX P w) 3 (He.ga K "is_atom") (spF K [.im] f_is_atom) := by
  obtain ⟨fd, F⟩ := G.d_is_atom
  exact fnr (N := ["thing"]) (ps := ["thing"]) (ms := [.im]) (m := m_is_atom) F sc_is_atom rfl (fun _ _ _ _ _ _ us hl => match us, hl with | [_], _ => rfl) fun cdv A outer s H E hr tk po =>
    (ss_cons (ss_if (sb_w (sw_or (sb_not (sb_val (se_isi rfl G.b_isinstance G.k_tuple (so_name 0 rfl (by first | exact .inl rfl | exact .inr (.inl rfl) | exact .inr (.inr rfl) | exact .inr rfl)) (te_ty rfl G.b_tuple (by decide +kernel))))) (sw_or (sb_cmp (ow_ne hr.units) (so_of_se (se_callB cw_len rfl G.b_len (by decide +kernel) (sa_cons (so_name 0 rfl (by first | exact .inl rfl | exact .inr (.inl rfl) | exact .inr (.inr rfl) | exact .inr rfl)) sa_nil))) (so_of_se se_int) (nomark _)) (sw_or1 (sb_not (sb_val (se_call (calR_fn (ok_is_kind G) (hr.mono (by decide)) tk) rfl G.g_is_kind G.kp_is_kind (sa_cons (so_of_se (se_ix ow_ix (so_name 0 rfl (by first | exact .inl rfl | exact .inr (.inl rfl) | exact .inr (.inr rfl) | exact .inr rfl)) (so_of_se se_int) (fun _ _ => rfl))) sa_nil)))))))) (ss_one (ss_ret se_bl)) ss_nil) (ss_one (ss_ret (se_and (se_call (calR_fn (ok_is_between G) (hr.mono (by decide)) tk) rfl G.g_is_between G.kp_is_between (sa_cons (so_of_se (se_ix ow_ix (so_name 0 rfl (by first | exact .inl rfl | exact .inr (.inl rfl) | exact .inr (.inr rfl) | exact .inr rfl)) (so_of_se se_int) (fun _ _ => rfl))) (sa_cons (so_of_se se_int) (sa_cons (so_of_se (se_gint rfl G.c_MOST_VARIABLE)) sa_nil)))) (se_one (se_call (calR_fn (ok_is_between G) (hr.mono (by decide)) tk) rfl G.g_is_between G.kp_is_between (sa_cons (so_of_se (se_ix ow_ix (so_name 0 rfl (by first | exact .inl rfl | exact .inr (.inl rfl) | exact .inr (.inr rfl) | exact .inr rfl)) (so_of_se se_int) (fun _ _ => rfl))) (sa_cons (so_of_se se_int) (sa_cons (so_of_se (se_gint rfl G.c_MOST_VARIABLE)) sa_nil)))))))))
theorem sc_are_atoms : FnScope ["things", "thing"] ["things"] (defScope (top 36)) := ⟨rfl, rfl, rfl, by decide +kernel, rfl, by decide +kernel, by decide +kernel⟩
theorem ok_are_atoms (G : Gt K mg) : FnR P w K mg base (L2.CX P w) 4 (He.ga K "are_atoms") (spF K [.im] f_are_atoms) := by
  obtain ⟨fd, F⟩ := G.d_are_atoms
  exact fnr (N := ["things", "thing"]) (ps := ["things"]) (ms := [.im]) (m := m_are_atoms) F sc_are_atoms rfl (fun _ _ _ _ _ _ us hl => match us, hl with | [_], _ => rfl) fun cdv A outer s H E hr tk po =>
    (ss_one (ss_ret (se_and (se_chain (owI op_le) (owI op_le) (so_of_se se_int) (so_of_se (se_callB cw_len rfl G.b_len (by decide +kernel) (sa_cons (so_name 0 rfl (by first | exact .inl rfl | exact .inr (.inl rfl) | exact .inr (.inr rfl) | exact .inr rfl)) sa_nil))) (so_of_se (se_gint rfl G.c_MOST_ATOMS))) (se_one (se_callB (cw_all rfl) rfl G.b_all (by decide +kernel) (sa_cons (so_of_se (se_of_sn (sn_lc (own := [("thing", 1)]) rfl sc_are_atoms.nd (si_nm 0 rfl (by first | exact .inl rfl | exact .inr (.inl rfl) | exact .inr (.inr rfl) | exact .inr rfl)) (blkOk_by rfl) (fun _ _ _ _ _ => (sg_nm 1 sc_are_atoms.nd rfl (by first | exact .inl rfl | exact .inr (.inl rfl) | exact .inr (.inr rfl) | exact .inr rfl))) (fun _ _ _ _ _ => st_nil) (fun _ _ _ _ _ => (se_call (calR_fn (ok_is_atom G) (hr.mono (by decide)) takes0) rfl G.g_is_atom G.kp_is_atom (sa_cons (so_name 1 rfl (by first | exact .inl rfl | exact .inr (.inl rfl) | exact .inr (.inr rfl) | exact .inr rfl)) sa_nil)))))) sa_nil))))))
theorem sc_Question___init : FnScope ["self", "atoms"] ["self", "atoms"] (defScope (mth 43 0)) := ⟨rfl, rfl, rfl, by decide +kernel, rfl, by decide +kernel, by decide +kernel⟩
theorem ok_Question___init (G : Gt K mg) : FnR P w K mg base (L2.CX P w) 5 (He.ma K (ca K 1) "__init__") (spStar 1 (spF K [.mu, .im] f_Question___init)) := by
  obtain ⟨fd, F⟩ := G.d_Question___init
  exact fnr_star (N := ["self", "atoms"]) (ps := ["self"]) (pv := "atoms") (ms := [.mu, .im]) (m := m_Question___init) F sc_Question___init rfl (fun kV doc pm an cdv ct => StX.bind_star1 (B := fun us => bindArgs (PySem.W.fnOf "__init__" "Question.__init__" (defArgs (mth 43 0)) (defBody (mth 43 0)) (defScope (mth 43 0)) .none kV doc pm an cdv ct) ⟨us, []⟩) (fun _ => rfl) (fun _ _ _ => rfl)) fun cdv A outer s H E hr tk po =>
    (ss_cons (ss_if (sb_not (sb_val (se_call (calR_fn (ok_are_atoms G) (hr.mono (by decide)) tk) rfl G.g_are_atoms G.kp_are_atoms (sa_cons (so_name 1 rfl (by first | exact .inl rfl | exact .inr (.inl rfl) | exact .inr (.inr rfl) | exact .inr rfl)) sa_nil)))) (ss_one (ss_raiseC 16 rfl tk rfl G.ex_NoAtoms G.g_NoAtoms rfl)) ss_nil) (ss_one (ss_stF 0 0 G.fl_1_kept rfl (by first | exact .inl rfl | exact .inr (.inl rfl) | exact .inr (.inr rfl) | exact .inr rfl) (se_of_so (so_name 1 rfl (by first | exact .inl rfl | exact .inr (.inl rfl) | exact .inr (.inr rfl) | exact .inr rfl))))))
theorem sc_Question_read : FnScope ["cls", "text", "atoms", "word"] ["cls", "text"] (defScope (mth 43 1)) := ⟨rfl, rfl, rfl, by decide +kernel, rfl, by decide +kernel, by decide +kernel⟩
theorem ok_Question_read (G : Gt K mg) : FnR P w K mg base (L2.CX P w) 7 (cma K (ca K 1) "read") (spF K [.im, .im] f_Question_read) := by
  obtain ⟨fd, F⟩ := G.d_Question_read
  exact fnr (N := ["cls", "text", "atoms", "word"]) (ps := ["cls", "text"]) (ms := [.im, .im]) (m := m_Question_read) F sc_Question_read rfl (fun _ _ _ _ _ _ us hl => match us, hl with | [_, _], _ => rfl) fun cdv A outer s H E hr tk po =>
    (ss_cons (ss_if (sb_not (sb_val (se_isi rfl G.b_isinstance G.k_str (so_name 1 rfl (by first | exact .inl rfl | exact .inr (.inl rfl) | exact .inr (.inr rfl) | exact .inr rfl)) (te_ty rfl G.b_str (by decide +kernel))))) (ss_one (ss_raiseC 14 rfl tk rfl G.ex_NoText G.g_NoText rfl)) ss_nil) (ss_cons (ss_setLc (i := 2) (own := [("word", 3)]) rfl sc_Question_read.nd rfl rfl (sw_true rfl rfl rfl rfl) (si_val (se_bm PySem.F.plainAttrs_str PySem.F.slot_str_split PySem.F.type_str_split mw_split (so_name 1 rfl (by first | exact .inl rfl | exact .inr (.inl rfl) | exact .inr (.inr rfl) | exact .inr rfl)) (sa_cons (so_of_se se_str) sa_nil))) (blkOk_by rfl) (fun _ _ _ _ _ => (sg_nm 3 sc_Question_read.nd rfl (by first | exact .inl rfl | exact .inr (.inl rfl) | exact .inr (.inr rfl) | exact .inr rfl))) (fun _ _ _ _ _ => st_nil) (fun _ _ _ _ _ => (se_call (calR_fn (ok_atom_of_word G) (hr.mono (by decide)) takes0) rfl G.g_atom_of_word G.kp_atom_of_word (sa_cons (so_name 3 rfl (by first | exact .inl rfl | exact .inr (.inl rfl) | exact .inr (.inr rfl) | exact .inr rfl)) sa_nil)))) (ss_cons (ss_if (sb_not (sb_val (se_call (calR_fn (ok_are_atoms G) (hr.mono (by decide)) tk) rfl G.g_are_atoms G.kp_are_atoms (sa_cons (so_name 2 rfl (by first | exact .inl rfl | exact .inr (.inl rfl) | exact .inr (.inr rfl) | exact .inr rfl)) sa_nil)))) (ss_one (ss_raiseC 14 rfl tk rfl G.ex_NoText G.g_NoText rfl)) ss_nil) (ss_one (ss_ret (se_of_sn (sn_mkLS (c := 1) (calR_mk G.mk_1 (ok_Question___init G) (hr.mono (by decide)) tk) 0 rfl (by first | exact .inl rfl | exact .inr (.inl rfl) | exact .inr (.inr rfl) | exact .inr rfl) G.kp_Question (se_of_so (so_name 2 rfl (by first | exact .inl rfl | exact .inr (.inl rfl) | exact .inr (.inr rfl) | exact .inr rfl))))))))))
theorem sc_x_law_is_equal : FnScope ["_law_actual", "_law_expected"] ["_law_actual", "_law_expected"] (defScope (top 50)) := ⟨rfl, rfl, rfl, by decide +kernel, rfl, by decide +kernel, by decide +kernel⟩
theorem ok_x_law_is_equal (G : Gt K mg) : FnG P w K mg base (L2.CX P w) 1 (He.ga K "_law_is_equal") (spF K [.im, .im] f_x_law_is_equal) := by
  obtain ⟨fd, F⟩ := G.d_x_law_is_equal
  exact fng (N := ["_law_actual", "_law_expected"]) (ps := ["_law_actual", "_law_expected"]) (ms := [.im, .im]) (m := m_x_law_is_equal) F sc_x_law_is_equal rfl (fun _ _ _ _ _ _ us hl => match us, hl with | [_, _], _ => rfl) fun cdv A outer s H E gd hr tk po =>
    (ss_one (ss_ret (se_cmp (ow_eq hr.units) (so_of_se (se_callB (cw_reprD G.sm gd hr.units) rfl G.b_repr (by decide +kernel) (sa_cons (so_name 0 rfl (by first | exact .inl rfl | exact .inr (.inl rfl) | exact .inr (.inr rfl) | exact .inr rfl)) sa_nil))) (so_of_se (se_callB (cw_reprD G.sm gd hr.units) rfl G.b_repr (by decide +kernel) (sa_cons (so_name 1 rfl (by first | exact .inl rfl | exact .inr (.inl rfl) | exact .inr (.inr rfl) | exact .inr rfl)) sa_nil))) (nomark _))))
theorem sc_Question_atoms : FnScope ["self"] ["self"] (defScope (mth 43 3)) := ⟨rfl, rfl, rfl, by decide +kernel, rfl, by decide +kernel, by decide +kernel⟩
theorem ok_Question_atoms (G : Gt K mg) : FnR P w K mg base (L2.CX P w) 1 (pga K (ca K 1) "atoms") (spF K [.im] f_Question_atoms) := by
  obtain ⟨fd, F⟩ := G.d_Question_atoms
  exact fnr (N := ["self"]) (ps := ["self"]) (ms := [.im]) (m := m_Question_atoms) F sc_Question_atoms rfl (fun _ _ _ _ _ _ us hl => match us, hl with | [_], _ => rfl) fun cdv A outer s H E hr tk po =>
    (ss_one (ss_ret (se_fld 0 G.fl_1_kept (so_name 0 rfl (by first | exact .inl rfl | exact .inr (.inl rfl) | exact .inr (.inr rfl) | exact .inr rfl)))))
theorem sc_Question_text : FnScope ["self", "kind", "left", "right"] ["self"] (defScope (mth 43 2)) := ⟨rfl, rfl, rfl, by decide +kernel, rfl, by decide +kernel, by decide +kernel⟩
theorem ok_Question_text (G : Gt K mg) : FnR P w K mg base (L2.CX P w) 1 (He.ma K (ca K 1) "text") (spF K [.im] f_Question_text) := by
  obtain ⟨fd, F⟩ := G.d_Question_text
  exact fnr (N := ["self", "kind", "left", "right"]) (ps := ["self"]) (ms := [.im]) (m := m_Question_text) F sc_Question_text rfl (fun _ _ _ _ _ _ us hl => match us, hl with | [_], _ => rfl) fun cdv A outer s H E hr tk po =>
    (ss_one (ss_ret (se_bm PySem.F.plainAttrs_str PySem.F.slot_str_join PySem.F.type_str_join mw_join (so_of_se se_str) (sa_cons (so_of_se (se_of_sn (sn_lc (own := [("kind", 1), ("left", 2), ("right", 3)]) rfl sc_Question_text.nd (si_val (se_fld 0 G.fl_1_kept (so_name 0 rfl (by first | exact .inl rfl | exact .inr (.inl rfl) | exact .inr (.inr rfl) | exact .inr rfl)))) (blkOk_by rfl) (fun _ _ _ _ _ => (sg_tup (n := 3) rfl (sg_cons (sg_nm 1 sc_Question_text.nd rfl (by first | exact .inl rfl | exact .inr (.inl rfl) | exact .inr (.inr rfl) | exact .inr rfl)) (sg_cons (sg_nm 2 sc_Question_text.nd rfl (by first | exact .inl rfl | exact .inr (.inl rfl) | exact .inr (.inr rfl) | exact .inr rfl)) (sg_cons (sg_nm 3 sc_Question_text.nd rfl (by first | exact .inl rfl | exact .inr (.inl rfl) | exact .inr (.inr rfl) | exact .inr rfl)) sg_nil))))) (fun _ _ _ _ _ => st_nil) (fun _ _ _ _ _ => (se_joined (sj_cons (se_fmt (so_name 1 rfl (by first | exact .inl rfl | exact .inr (.inl rfl) | exact .inr (.inr rfl) | exact .inr rfl))) (sj_cons (se_fmt (so_name 2 rfl (by first | exact .inl rfl | exact .inr (.inl rfl) | exact .inr (.inr rfl) | exact .inr rfl))) (sj_cons (se_fmt (so_name 3 rfl (by first | exact .inl rfl | exact .inr (.inl rfl) | exact .inr (.inr rfl) | exact .inr rfl))) sj_nil)))))))) sa_nil))))
theorem sc_Question___eq : FnScope ["self", "other"] ["self", "other"] (defScope (mth 43 12)) := ⟨rfl, rfl, rfl, by decide +kernel, rfl, by decide +kernel, by decide +kernel⟩
theorem ok_Question___eq (G : Gt K mg) : FnR P w K mg base (L2.CX P w) 1 (He.ma K (ca K 1) "__eq__") (spF K [.im, .im] f_Question___eq) := by
  obtain ⟨fd, F⟩ := G.d_Question___eq
  exact fnr (N := ["self", "other"]) (ps := ["self", "other"]) (ms := [.im, .im]) (m := m_Question___eq) F sc_Question___eq rfl (fun _ _ _ _ _ _ us hl => match us, hl with | [_, _], _ => rfl) fun cdv A outer s H E hr tk po =>
    (ss_one (ss_ret (se_and (se_isi rfl G.b_isinstance G.k_Question (so_name 1 rfl (by first | exact .inl rfl | exact .inr (.inl rfl) | exact .inr (.inr rfl) | exact .inr rfl)) (pe_glob rfl G.g_Question (v := .ref (ca K 1)) rfl)) (se_one (se_cmp (ow_eq hr.units) (so_of_se (se_of_sn (sn_callB (cw_sorted hr.units) rfl G.b_sorted (by decide +kernel) (sa_cons (so_of_se (se_fld 0 G.fl_1_kept (so_name 0 rfl (by first | exact .inl rfl | exact .inr (.inl rfl) | exact .inr (.inr rfl) | exact .inr rfl)))) sa_nil)))) (so_of_se (se_of_sn (sn_callB (cw_sorted hr.units) rfl G.b_sorted (by decide +kernel) (sa_cons (so_of_se (se_fld 0 G.fl_1_kept (so_name 1 rfl (by first | exact .inl rfl | exact .inr (.inl rfl) | exact .inr (.inr rfl) | exact .inr rfl)))) sa_nil)))) (nomark _))))))
def mh_variables_of : M Fl :=
  ((mCall dTuple (mCons (mVa ((mVa (mOp2 dAdd (mVa (mLc none (mItT (mFz 0)) [1] (tgNm 1) (M.ret true) e_variables_of_1)) (mVa (mLc none (mItT (mFz 0)) [1] (tgNm 1) (M.ret true) e_variables_of_2)))).bind fun h => mFs iSortSet [h])) (M.ret []))).bind fun d => M.ret (.rt d))
def fh_variables_of : Fn := runDef [.im] 2 mh_variables_of
def mh_Question___repr : M Fl :=
  ((mJ [(M.ret (.str "Question(")), (mOp1 dFmt (mVa (mCall dLen (mCons (mVa ((mNm 0).bind (mFld [1] 0))) (M.ret []))))), (M.ret (.str " atoms, ")), (mOp1 dFmt (mVa (mCall dLen (mCons (mVa ((mCons (mVa ((mNm 0).bind (mFld [1] 0))) (M.ret [])).bind (mCallF [.im] fh_variables_of))) (M.ret []))))), (M.ret (.str " variables)"))] Str.empty).bind fun d => M.ret (.rt d))
def fh_Question___repr : Fn := runDef [.im] 1 mh_Question___repr
def mn_Question_read : M Fl :=
  (mSeq ((((mIsi [0, 1] .str (mNm 1)).bind dBool).bind fun c => M.ret (!c)).bind fun k => if k = true then (mRaise 14) else (M.ret .nx))
    (mSeq (mSetN 2 (mLc none i_Question_read_1 [3] (tgNm 3) (M.ret true) e_Question_read_2))
    (mSeq ((noEx ((((mCons (mNm 2) (M.ret [])).bind (mCallF [.im] f_are_atoms)).bind dBool).bind fun c => M.ret (!c))).bind fun k => if k = true then (mRaise 14) else (M.ret .nx))
    ((noEx ((mGlo 0 1).bind fun _ => mMkS 1 f_Question___init (mFz 2))).bind fun d => M.ret (.rt d)))))
def fn_Question_read : Fn := runDef [.im, .im] 4 mn_Question_read
def mh_x_law_is_right : M Fl :=
  (mSeq (mPar 1 2 (mCons (mVa ((mCons (mNm 0) (M.ret [])).bind (mCallF [.im] f_x_law_read))) (mCons (mVa (mReprX 1 [.im] f_Question___repr (mCons (mNm 0) (M.ret [])))) (M.ret []))))
    (mSeq (mTry [10, 11, 12, 14, 15, 16, 17, 18] (mSet 3 ((mCons (mNm 0) (M.ret [])).bind fun hs => mCallF [.im, .im] fn_Question_read (.va (.glo 1) :: hs))) [(14, ((mAndD (mOp2 dIsN (mNm 1) (mVa (M.ret .non))) (mOp2 dEq (mVa (mReprX 1 [.im] fh_Question___repr (mCons (mNm 0) (M.ret [])))) (mNm 2))).bind fun d => M.ret (.rt d)))])
    (mSeq ((mOrB ((mOp2 dIsN (mNm 1) (mVa (M.ret .non))).bind dBool) ((((mCons (mVa ((mNm 3).bind (mProp [1] .im (fun _ => f_Question_atoms)))) (mCons (mNm 1) (M.ret []))).bind (mCallF [.im, .im] f_x_law_is_equal)).bind dBool).bind fun c => M.ret (!c))).bind fun k => if k = true then ((M.ret (.bl false)).bind fun d => M.ret (.rt d)) else (M.ret .nx))
    ((mAndD ((mCons (mVa ((mNm 3).bind (mMth0 [1] [.im] (fun _ => f_Question_text)))) (mCons (mNm 0) (M.ret []))).bind (mCallF [.im, .im] f_x_law_is_equal)) (mIopA 1 (fun h h2 => mCallF [.im, .im] f_Question___eq [h, h2]) (mNm 3) (mVa ((mCons (mNm 0) (M.ret [])).bind fun hs => mCallF [.im, .im] f_Question_read (.va (.glo 1) :: hs))))).bind fun d => M.ret (.rt d)))))
def fh_x_law_is_right : Fn := runDef [.im] 4 mh_x_law_is_right
theorem okh_variables_of (G : Gt K mg) : FnRH P w K mg base (L2.CX P w) 1 (He.ga K "variables_of") (spF K [.im] fh_variables_of) := by
  obtain ⟨fd, F⟩ := G.d_variables_of
  exact fnrH (N := ["atoms", "atom"]) (ps := ["atoms"]) (ms := [.im]) (m := mh_variables_of) F sc_variables_of rfl (fun _ _ _ _ _ _ us hl => match us, hl with | [_], _ => rfl) fun cdv A outer s H E p hr hc tk =>
    (ss_one (ss_ret (se_callTy cw_tuple rfl G.b_tuple (by decide +kernel) (sa_cons (so_of_se (se_of_sn (sn_sortSetH hc rfl G.b_sorted rfl G.b_set (so_of_se (se_op2 ow_add (so_of_se (se_of_sn (sn_lcH (own := [("atom", 1)]) hc sc_variables_of.nd (siz_tup (se_of_so (so_name 0 rfl (by first | exact .inl rfl | exact .inr (.inl rfl) | exact .inr (.inr rfl) | exact .inr rfl)))) (blkOk_by rfl) (fun _ _ _ _ _ => (sg_nm 1 sc_variables_of.nd rfl (by first | exact .inl rfl | exact .inr (.inl rfl) | exact .inr (.inr rfl) | exact .inr rfl))) (fun _ _ _ _ _ => st_nil) (fun _ _ _ _ _ => (se_ix ow_ix (so_name 1 rfl (by first | exact .inl rfl | exact .inr (.inl rfl) | exact .inr (.inr rfl) | exact .inr rfl)) (so_of_se se_int) (fun _ _ => rfl)))))) (so_of_se (se_of_sn (sn_lcH (own := [("atom", 1)]) hc sc_variables_of.nd (siz_tup (se_of_so (so_name 0 rfl (by first | exact .inl rfl | exact .inr (.inl rfl) | exact .inr (.inr rfl) | exact .inr rfl)))) (blkOk_by rfl) (fun _ _ _ _ _ => (sg_nm 1 sc_variables_of.nd rfl (by first | exact .inl rfl | exact .inr (.inl rfl) | exact .inr (.inr rfl) | exact .inr rfl))) (fun _ _ _ _ _ => st_nil) (fun _ _ _ _ _ => (se_ix ow_ix (so_name 1 rfl (by first | exact .inl rfl | exact .inr (.inl rfl) | exact .inr (.inr rfl) | exact .inr rfl)) (so_of_se se_int) (fun _ _ => rfl))))))))))) sa_nil))))
theorem okh_Question___repr (G : Gt K mg) : FnRH P w K mg base (L2.CX P w) 2 (He.ma K (ca K 1) "__repr__") (spF K [.im] fh_Question___repr) := by
  obtain ⟨fd, F⟩ := G.d_Question___repr
  exact fnrH (N := ["self"]) (ps := ["self"]) (ms := [.im]) (m := mh_Question___repr) F sc_Question___repr rfl (fun _ _ _ _ _ _ us hl => match us, hl with | [_], _ => rfl) fun cdv A outer s H E p hr hc tk =>
    (ss_one (ss_ret (se_joined (sj_cons se_str (sj_cons (se_fmt (so_of_se (se_callB cw_len rfl G.b_len (by decide +kernel) (sa_cons (so_of_se (se_fld 0 G.fl_1_kept (so_name 0 rfl (by first | exact .inl rfl | exact .inr (.inl rfl) | exact .inr (.inr rfl) | exact .inr rfl)))) sa_nil)))) (sj_cons se_str (sj_cons (se_fmt (so_of_se (se_callB cw_len rfl G.b_len (by decide +kernel) (sa_cons (so_of_se (se_call (calR_fnH (okh_variables_of G) (hr.mono (by decide)) hc tk) rfl G.g_variables_of G.kp_variables_of (sa_cons (so_of_se (se_fld 0 G.fl_1_kept (so_name 0 rfl (by first | exact .inl rfl | exact .inr (.inl rfl) | exact .inr (.inr rfl) | exact .inr rfl)))) sa_nil))) sa_nil)))) (sj_cons se_str sj_nil))))))))
theorem okn_Question_read (G : Gt K mg) : FnR P w K mg base (L2N.CX P w) 7 (cma K (ca K 1) "read") (spF K [.im, .im] fn_Question_read) := by
  obtain ⟨fd, F⟩ := G.d_Question_read
  exact fnrN (N := ["cls", "text", "atoms", "word"]) (ps := ["cls", "text"]) (ms := [.im, .im]) (m := mn_Question_read) F sc_Question_read rfl (fun _ _ _ _ _ _ us hl => match us, hl with | [_, _], _ => rfl) fun cdv A outer s H E hr tk po =>
    (ss_cons (ss_if (sb_not (sb_val (se_isi rfl G.b_isinstance G.k_str (so_name 1 rfl (by first | exact .inl rfl | exact .inr (.inl rfl) | exact .inr (.inr rfl) | exact .inr rfl)) (te_ty rfl G.b_str (by decide +kernel))))) (ss_one (ss_raiseN 14 rfl tk rfl G.ex_NoText G.g_NoText rfl)) ss_nil) (ss_cons (ss_setLc (i := 2) (own := [("word", 3)]) rfl sc_Question_read.nd rfl rfl (sw_true rfl rfl rfl rfl) (si_val (se_bm PySem.F.plainAttrs_str PySem.F.slot_str_split PySem.F.type_str_split mw_split (so_name 1 rfl (by first | exact .inl rfl | exact .inr (.inl rfl) | exact .inr (.inr rfl) | exact .inr rfl)) (sa_cons (so_of_se se_str) sa_nil))) (blkOk_by rfl) (fun _ _ _ _ _ => (sg_nm 3 sc_Question_read.nd rfl (by first | exact .inl rfl | exact .inr (.inl rfl) | exact .inr (.inr rfl) | exact .inr rfl))) (fun _ _ _ _ _ => st_nil) (fun _ _ _ _ _ => (se_call (calR_fn (ok_atom_of_word G) (hr.mono (by decide)) takes0) rfl G.g_atom_of_word G.kp_atom_of_word (sa_cons (so_name 3 rfl (by first | exact .inl rfl | exact .inr (.inl rfl) | exact .inr (.inr rfl) | exact .inr rfl)) sa_nil)))) (ss_cons (ss_if (sb_up0 (sb_not (sb_val (se_call (calR_fn (ok_are_atoms G) (hr.mono (by decide)) takes0) rfl G.g_are_atoms G.kp_are_atoms (sa_cons (so_name 2 rfl (by first | exact .inl rfl | exact .inr (.inl rfl) | exact .inr (.inr rfl) | exact .inr rfl)) sa_nil))))) (ss_one (ss_raiseN 14 rfl tk rfl G.ex_NoText G.g_NoText rfl)) ss_nil) (ss_one (ss_ret (se_up0 (se_of_sn (sn_mkLS (c := 1) (calR_mk G.mk_1 (ok_Question___init G) (hr.mono (by decide)) takes0) 0 rfl (by first | exact .inl rfl | exact .inr (.inl rfl) | exact .inr (.inr rfl) | exact .inr rfl) G.kp_Question (se_of_so (so_name 2 rfl (by first | exact .inl rfl | exact .inr (.inl rfl) | exact .inr (.inr rfl) | exact .inr rfl)))))))))))
theorem sc_x_law_is_right : FnScope ["_law_thing", "_law_due", "_law_kept", "_law_made"] ["_law_thing"] (defScope (top 56)) := ⟨rfl, rfl, rfl, by decide +kernel, rfl, by decide +kernel, by decide +kernel⟩
theorem okh_x_law_is_right (G : Gt K mg) : FnG P w K mg base (L2.CX P w) 8 (He.ga K "_law_is_right") (spF K [.im] fh_x_law_is_right) := by
  obtain ⟨fd, F⟩ := G.d_x_law_is_right
  exact fng (N := ["_law_thing", "_law_due", "_law_kept", "_law_made"]) (ps := ["_law_thing"]) (ms := [.im]) (m := mh_x_law_is_right) F sc_x_law_is_right rfl (fun _ _ _ _ _ _ us hl => match us, hl with | [_], _ => rfl) fun cdv A outer s H E gd hr tk po =>
    (ss_cons (ss_par (i := 1) (j := 2) rfl sc_x_law_is_right.nd rfl rfl (by decide) rfl rfl (sa_cons (so_of_se (se_call (calR_fn (ok_x_law_read G) (hr.mono (by decide)) tk) rfl G.g_x_law_read G.kp_x_law_read (sa_cons (so_name 0 rfl (by first | exact .inl rfl | exact .inr (.inl rfl) | exact .inr (.inr rfl) | exact .inr rfl)) sa_nil))) (sa_cons (so_of_se (se_reprX (k := 2) (c := 1) (ms := [.im]) (f := f_Question___repr) G.sm gd rfl G.b_repr (by decide +kernel) (sa_cons (so_name 0 rfl (by first | exact .inl rfl | exact .inr (.inl rfl) | exact .inr (.inr rfl) | exact .inr rfl)) sa_nil) G.me_Question___repr (ok_Question___repr G) (hr.mono (show 3 ≤ _ by decide)) tk hr.units)) sa_nil)) rfl) (ss_cons (ss_tryN (cs := [10, 11, 12, 14, 15, 16, 17, 18]) (c := 14) rfl rfl ⟨rfl, by decide, .inl G.g_NoText⟩ (fun hd => L2H.passesAt_of rfl hd) tk (fun c hc => exm_hs (hs := [(14, (M.ret .nx))]) G.xm_14 rfl c hc _ (List.mem_singleton.mpr rfl)) (fun W1 pn xe tk1 po1 => (ss_one (ss_set 3 sc_x_law_is_right.nd rfl (by first | exact .inl rfl | exact .inr (.inl rfl) | exact .inr (.inr rfl) | exact .inr rfl) (se_cmeth (c := 1) rfl G.g_Question G.cm_Question_read.1 G.cm_Question_read.2 (codR_fnN (okn_Question_read G) (hr.mono (by decide)) tk1) (sa_cons (so_name 0 rfl (by first | exact .inl rfl | exact .inr (.inl rfl) | exact .inr (.inr rfl) | exact .inr rfl)) sa_nil))))) (fun a pn hc tk2 => (ss_one (ss_ret (se_and (se_cmp ow_isN (so_name 1 rfl (by first | exact .inl rfl | exact .inr (.inl rfl) | exact .inr (.inr rfl) | exact .inr rfl)) (so_of_se se_non) (nomark _)) (se_one (se_cmp (ow_eq hr.units) (so_of_se (se_reprXH (k := 2) (c := 1) (ms := [.im]) (f := fh_Question___repr) G.sm gd rfl G.b_repr (by decide +kernel) (sa_cons (so_name 0 rfl (by first | exact .inl rfl | exact .inr (.inl rfl) | exact .inr (.inr rfl) | exact .inr rfl)) sa_nil) G.me_Question___repr (okh_Question___repr G) ⟨(hr.mono (show 3 ≤ _ by decide)).dp, (hr.mono (show 3 ≤ _ by decide)).un⟩ hc takes0 hr.units)) (so_name 2 rfl (by first | exact .inl rfl | exact .inr (.inl rfl) | exact .inr (.inr rfl) | exact .inr rfl)) (nomark _)))))))) (ss_cons (ss_if (sb_w (sw_or (sb_cmp ow_isN (so_name 1 rfl (by first | exact .inl rfl | exact .inr (.inl rfl) | exact .inr (.inr rfl) | exact .inr rfl)) (so_of_se se_non) (nomark _)) (sw_or1 (sb_not (sb_val (se_call (calR_fng (ok_x_law_is_equal G) gd (hr.mono (by decide)) tk) rfl G.g_x_law_is_equal G.kp_x_law_is_equal (sa_cons (so_of_se (se_prop (k := 1) (cs := [1]) (md := .im) (f := fun _ => f_Question_atoms) (so_name 3 rfl (by first | exact .inl rfl | exact .inr (.inl rfl) | exact .inr (.inr rfl) | exact .inr rfl)) (fun c hc => by cases hc with | head => exact ⟨_, _, G.cl_1, G.pr_Question_atoms, ok_Question_atoms G⟩ | tail _ h => cases h) (hr.mono (by decide)))) (sa_cons (so_name 1 rfl (by first | exact .inl rfl | exact .inr (.inl rfl) | exact .inr (.inr rfl) | exact .inr rfl)) sa_nil)))))))) (ss_one (ss_ret se_bl)) ss_nil) (ss_one (ss_ret (se_and (se_call (calR_fng (ok_x_law_is_equal G) gd (hr.mono (by decide)) tk) rfl G.g_x_law_is_equal G.kp_x_law_is_equal (sa_cons (so_of_se (se_meth0 (cs := [1]) (ms := [.im]) (f := fun _ => f_Question_text) (so_name 3 rfl (by first | exact .inl rfl | exact .inr (.inl rfl) | exact .inr (.inr rfl) | exact .inr rfl)) (fun c hc => by cases hc with | head => exact ⟨_, G.cl_1, G.me_Question_text, (codR_fn (ok_Question_text G) (hr.mono (by decide)) tk)⟩ | tail _ h => cases h) (fun i h => by match i, h with | 0, _ => decide | 1, _ => decide | 2, _ => decide | 3, _ => decide | 4, _ => decide | i + 5, h => omega))) (sa_cons (so_name 0 rfl (by first | exact .inl rfl | exact .inr (.inl rfl) | exact .inr (.inr rfl) | exact .inr rfl)) sa_nil))) (se_one (se_icmpA (c := 1) (ms := [.im, .im]) (f := f_Question___eq) (so_name 3 rfl (by first | exact .inl rfl | exact .inr (.inl rfl) | exact .inr (.inr rfl) | exact .inr rfl)) (so_of_se (se_cmeth (c := 1) rfl G.g_Question G.cm_Question_read.1 G.cm_Question_read.2 (codR_fn (ok_Question_read G) (hr.mono (by decide)) tk) (sa_cons (so_name 0 rfl (by first | exact .inl rfl | exact .inr (.inl rfl) | exact .inr (.inr rfl) | exact .inr rfl)) sa_nil))) hr.units0 G.me_Question___eq (codR_fn (ok_Question___eq G) (hr.mono (by decide)) tk) (nomark _)))))))))
def i_law_1 : M (List D) :=
  (mIt (mOp2 dAdd (mVa (mLst (mCons (mNm 4) (M.ret [])))) (mVa ((mCons (mNm 2) (mCons (mNm 4) (M.ret []))).bind (mCallF [.mu, .im] f_x_law_near)))))
def b_law_2 : M Fl :=
  (((((mCons (mNm 5) (M.ret [])).bind (mCallF [.im] fh_x_law_is_right)).bind dBool).bind fun c => M.ret (!c)).bind fun k => if k = true then ((M.ret (.bl false)).bind fun d => M.ret (.rt d)) else (M.ret .nx))
def i_law_3 : M (List D) :=
  (mSrc rng1 (mCons (mVa (M.ret (.int 6))) (M.ret [])))
def b_law_4 : M Fl :=
  (mSeq (mSet 4 ((mCons (mVa ((mCons (mNm 2) (mCons (mVa (M.ret (.int 4))) (M.ret []))).bind (mCallF [.mu, .im] f_x_law_some))) (M.ret [])).bind (mCallF [.im] f_x_law_words)))
    (mFor none i_law_1 (tgNm 5) b_law_2))
def i_law_5 : M (List D) :=
  (mIt (mTup (mCons (mVa (M.ret .non)) (mCons (mVa (M.ret (.bl true))) (mCons (mVa (M.ret (.int 0))) (mCons (mVa (M.ret (.int 100))) (mCons (mVa (mTup (M.ret []))) (mCons (mVa (mLst (M.ret []))) (mCons (mVa (M.ret (.dik []))) (mCons (mVa (mLst (mCons (mNm 4) (M.ret [])))) (mCons (mVa (mTup (mCons (mNm 4) (M.ret [])))) (mCons (mVa (mTup (mCons (mVa (M.ret (.str "A"))) (mCons (mVa (M.ret (.int 0))) (mCons (mVa (M.ret (.int 1))) (M.ret [])))))) (mCons (mVa (mTup (mCons (mVa (M.ret (.str "A01"))) (M.ret [])))) (mCons (mVa ((mCons (mNm 4) (M.ret [])).bind fun hs => mCallF [.im, .im] f_Question_read (.va (.glo 1) :: hs))) (M.ret [])))))))))))))))
def b_law_6 : M Fl :=
  (((((mCons (mNm 5) (M.ret [])).bind (mCallF [.im] fh_x_law_is_right)).bind dBool).bind fun c => M.ret (!c)).bind fun k => if k = true then ((M.ret (.bl false)).bind fun d => M.ret (.rt d)) else (M.ret .nx))
def b_law_7 : M Fl :=
  (((((mCons (mNm 5) (M.ret [])).bind (mCallF [.im] fh_x_law_is_right)).bind dBool).bind fun c => M.ret (!c)).bind fun k => if k = true then ((M.ret (.bl false)).bind fun d => M.ret (.rt d)) else (M.ret .nx))
def i_law_8 : M (List D) :=
  (mSrc rng1 (mCons (mVa (mCall dMax2 (mCons (mVa (M.ret (.int 1))) (mCons (mVa (mCall dMin2 (mCons (mVa (mCall dLen (mCons (mNm 0) (M.ret [])))) (mCons (mVa (M.ret (.int 2))) (M.ret []))))) (M.ret []))))) (M.ret [])))
def b_law_9 : M Fl :=
  (mSeq (mSetN 2 ((mCons (mVa ((mCons (mNm 0) (mCons (mNm 1) (M.ret []))).bind (mCallF [.im, .im] f_x_law_cell))) (M.ret [])).bind (mCallN [.im] f_x_law_source)))
    (mSeq (mFor none i_law_3 (tgNm 3) b_law_4)
    (mSeq (mFor none i_law_5 (tgNm 5) b_law_6)
    (mSeq (mSet 6 (mLst (mCons (mVa (M.ret (.str ""))) (mCons (mVa (M.ret (.str " "))) (mCons (mVa (M.ret (.str "A"))) (mCons (mVa (M.ret (.str "A0"))) (mCons (mVa (M.ret (.str "A001"))) (mCons (mVa (M.ret (.str "A1"))) (mCons (mVa (M.ret (.str "a01"))) (mCons (mVa (M.ret (.str "D01"))) (mCons (mVa (M.ret (.str "A-1"))) (mCons (mVa (M.ret (.str "A0a"))) (mCons (mVa (M.ret (.str "A01 "))) (mCons (mVa (M.ret (.str "A01 A"))) (mCons (mVa (mOp2 dAdd (mVa (M.ret (.str "A01"))) (mVa (mOp2 dMulS (mVa (M.ret (.str " A01"))) (mVa (M.ret (.int 4))))))) (M.ret []))))))))))))))))
    (mFor (some 6) (mItN 6) (tgNm 5) b_law_7)))))
def m_law : M Fl :=
  (mSeq (mFor none i_law_8 (tgNm 1) b_law_9)
    ((M.ret (.bl true)).bind fun d => M.ret (.rt d)))
def f_law : Fn := runDef [.im] 7 m_law
theorem sc_law : FnScope ["_law_script", "_law_index", "_law_source_here", "_law_lap", "_law_text", "_law_thing", "_law_things"] ["_law_script"] (defScope (top 58)) := ⟨rfl, rfl, rfl, by decide +kernel, rfl, by decide +kernel, by decide +kernel⟩
theorem ok_law (G : Gt K mg) : FnG P w K mg base (L2.CX P w) 9 (He.ga K "law") (spF K [.im] f_law) := by
  obtain ⟨fd, F⟩ := G.d_law
  exact fng (N := ["_law_script", "_law_index", "_law_source_here", "_law_lap", "_law_text", "_law_thing", "_law_things"]) (ps := ["_law_script"]) (ms := [.im]) (m := m_law) F sc_law rfl (fun _ _ _ _ _ _ us hl => match us, hl with | [_], _ => rfl) fun cdv A outer s H E gd hr tk po =>
    (ss_cons (ss_for po rfl (si_range1 rfl G.b_range (sa_cons (so_of_se (se_callB (cw_max2 rfl) rfl G.b_max (by decide +kernel) (sa_cons (so_of_se se_int) (sa_cons (so_of_se (se_callB (cw_min2 rfl) rfl G.b_min (by decide +kernel) (sa_cons (so_of_se (se_callB cw_len rfl G.b_len (by decide +kernel) (sa_cons (so_name 0 rfl (by first | exact .inl rfl | exact .inr (.inl rfl) | exact .inr (.inr rfl) | exact .inr rfl)) sa_nil))) (sa_cons (so_of_se se_int) sa_nil)))) sa_nil)))) sa_nil)) (sg_nm 1 sc_law.nd rfl (by first | exact .inl rfl | exact .inr (.inl rfl) | exact .inr (.inr rfl) | exact .inr rfl)) (ss_cons (ss_setN 2 sc_law.nd rfl (by first | exact .inl rfl | exact .inr (.inl rfl) | exact .inr (.inr rfl) | exact .inr rfl) (sn_call (calR_fn (ok_x_law_source G) (hr.mono (by decide)) tk) rfl G.g_x_law_source G.kp_x_law_source (sa_cons (so_of_se (se_call (calR_fn (ok_x_law_cell G) (hr.mono (by decide)) tk) rfl G.g_x_law_cell G.kp_x_law_cell (sa_cons (so_name 0 rfl (by first | exact .inl rfl | exact .inr (.inl rfl) | exact .inr (.inr rfl) | exact .inr rfl)) (sa_cons (so_name 1 rfl (by first | exact .inl rfl | exact .inr (.inl rfl) | exact .inr (.inr rfl) | exact .inr rfl)) sa_nil)))) sa_nil))) (ss_cons (ss_for po rfl (si_range1 rfl G.b_range (sa_cons (so_of_se se_int) sa_nil)) (sg_nm 3 sc_law.nd rfl (by first | exact .inl rfl | exact .inr (.inl rfl) | exact .inr (.inr rfl) | exact .inr rfl)) (ss_cons (ss_set 4 sc_law.nd rfl (by first | exact .inl rfl | exact .inr (.inl rfl) | exact .inr (.inr rfl) | exact .inr rfl) (se_call (calR_fn (ok_x_law_words G) (hr.mono (by decide)) tk) rfl G.g_x_law_words G.kp_x_law_words (sa_cons (so_of_se (se_call (calR_fn (ok_x_law_some G) (hr.mono (by decide)) tk) rfl G.g_x_law_some G.kp_x_law_some (sa_cons (so_name 2 rfl (by first | exact .inl rfl | exact .inr (.inl rfl) | exact .inr (.inr rfl) | exact .inr rfl)) (sa_cons (so_of_se se_int) sa_nil)))) sa_nil))) (ss_one (ss_for po rfl (si_val (se_op2 ow_add (so_of_se (se_of_sn (sn_lst (sa_cons (so_name 4 rfl (by first | exact .inl rfl | exact .inr (.inl rfl) | exact .inr (.inr rfl) | exact .inr rfl)) sa_nil)))) (so_of_se (se_call (calR_fn (ok_x_law_near G) (hr.mono (by decide)) tk) rfl G.g_x_law_near G.kp_x_law_near (sa_cons (so_name 2 rfl (by first | exact .inl rfl | exact .inr (.inl rfl) | exact .inr (.inr rfl) | exact .inr rfl)) (sa_cons (so_name 4 rfl (by first | exact .inl rfl | exact .inr (.inl rfl) | exact .inr (.inr rfl) | exact .inr rfl)) sa_nil)))))) (sg_nm 5 sc_law.nd rfl (by first | exact .inl rfl | exact .inr (.inl rfl) | exact .inr (.inr rfl) | exact .inr rfl)) (ss_one (ss_if (sb_not (sb_val (se_call (calR_fng (okh_x_law_is_right G) gd (hr.mono (by decide)) tk) rfl G.g_x_law_is_right G.kp_x_law_is_right (sa_cons (so_name 5 rfl (by first | exact .inl rfl | exact .inr (.inl rfl) | exact .inr (.inr rfl) | exact .inr rfl)) sa_nil)))) (ss_one (ss_ret se_bl)) ss_nil)))))) (ss_cons (ss_for po rfl (si_val (se_tup (sa_cons (so_of_se se_non) (sa_cons (so_of_se se_bl) (sa_cons (so_of_se se_int) (sa_cons (so_of_se se_int) (sa_cons (so_of_se (se_tup sa_nil)) (sa_cons (so_of_se (se_of_sn (sn_lst sa_nil))) (sa_cons (so_of_se (se_of_sn sn_dct0)) (sa_cons (so_of_se (se_of_sn (sn_lst (sa_cons (so_name 4 rfl (by first | exact .inl rfl | exact .inr (.inl rfl) | exact .inr (.inr rfl) | exact .inr rfl)) sa_nil)))) (sa_cons (so_of_se (se_tup (sa_cons (so_name 4 rfl (by first | exact .inl rfl | exact .inr (.inl rfl) | exact .inr (.inr rfl) | exact .inr rfl)) sa_nil))) (sa_cons (so_of_se (se_tup (sa_cons (so_of_se se_str) (sa_cons (so_of_se se_int) (sa_cons (so_of_se se_int) sa_nil))))) (sa_cons (so_of_se (se_tup (sa_cons (so_of_se se_str) sa_nil))) (sa_cons (so_of_se (se_cmeth (c := 1) rfl G.g_Question G.cm_Question_read.1 G.cm_Question_read.2 (codR_fn (ok_Question_read G) (hr.mono (by decide)) tk) (sa_cons (so_name 4 rfl (by first | exact .inl rfl | exact .inr (.inl rfl) | exact .inr (.inr rfl) | exact .inr rfl)) sa_nil))) sa_nil)))))))))))))) (sg_nm 5 sc_law.nd rfl (by first | exact .inl rfl | exact .inr (.inl rfl) | exact .inr (.inr rfl) | exact .inr rfl)) (ss_one (ss_if (sb_not (sb_val (se_call (calR_fng (okh_x_law_is_right G) gd (hr.mono (by decide)) tk) rfl G.g_x_law_is_right G.kp_x_law_is_right (sa_cons (so_name 5 rfl (by first | exact .inl rfl | exact .inr (.inl rfl) | exact .inr (.inr rfl) | exact .inr rfl)) sa_nil)))) (ss_one (ss_ret se_bl)) ss_nil))) (ss_cons (ss_set 6 sc_law.nd rfl (by first | exact .inl rfl | exact .inr (.inl rfl) | exact .inr (.inr rfl) | exact .inr rfl) (se_of_sn (sn_lst (sa_cons (so_of_se se_str) (sa_cons (so_of_se se_str) (sa_cons (so_of_se se_str) (sa_cons (so_of_se se_str) (sa_cons (so_of_se se_str) (sa_cons (so_of_se se_str) (sa_cons (so_of_se se_str) (sa_cons (so_of_se se_str) (sa_cons (so_of_se se_str) (sa_cons (so_of_se se_str) (sa_cons (so_of_se se_str) (sa_cons (so_of_se se_str) (sa_cons (so_of_se (se_op2 ow_add (so_of_se se_str) (so_of_se (se_op2 ow_mulS (so_of_se se_str) (so_of_se se_int))))) sa_nil)))))))))))))))) (ss_one (ss_for po rfl (si_nm 6 rfl (by first | exact .inl rfl | exact .inr (.inl rfl) | exact .inr (.inr rfl) | exact .inr rfl)) (sg_nm 5 sc_law.nd rfl (by first | exact .inl rfl | exact .inr (.inl rfl) | exact .inr (.inr rfl) | exact .inr rfl)) (ss_one (ss_if (sb_not (sb_val (se_call (calR_fng (okh_x_law_is_right G) gd (hr.mono (by decide)) tk) rfl G.g_x_law_is_right G.kp_x_law_is_right (sa_cons (so_name 5 rfl (by first | exact .inl rfl | exact .inr (.inl rfl) | exact .inr (.inr rfl) | exact .inr rfl)) sa_nil)))) (ss_one (ss_ret se_bl)) ss_nil))))))))) (ss_one (ss_ret se_bl)))
end
theorem gt_of {K : Frag} {h : Heap} {mg : Str → Option Value} (X : K.In h) (Gm : h.Ns mainGlobals mg) (c : SaysP fa fn K) : Gt K mg where
  b_len := He.free_ok X Gm (c.fact 0 rfl)
  b_min := He.free_ok X Gm (c.fact 1 rfl)
  b_max := He.free_ok X Gm (c.fact 2 rfl)
  b_range := He.free_ok X Gm (c.fact 3 rfl)
  g_x_law_cell := He.glo_ok X Gm (c.fact 4 rfl)
  kp_x_law_cell := He.keep_ok (c.fact 5 rfl)
  g_x_law_source := He.glo_ok X Gm (c.fact 6 rfl)
  kp_x_law_source := He.keep_ok (c.fact 7 rfl)
  b_str := He.free_ok X Gm (c.fact 8 rfl)
  g_x_law_draw := He.glo_ok X Gm (c.fact 9 rfl)
  kp_x_law_draw := He.keep_ok (c.fact 10 rfl)
  g_x_law_choose := He.glo_ok X Gm (c.fact 11 rfl)
  kp_x_law_choose := He.keep_ok (c.fact 12 rfl)
  g_x_law_some := He.glo_ok X Gm (c.fact 13 rfl)
  kp_x_law_some := He.keep_ok (c.fact 14 rfl)
  g_x_law_words := He.glo_ok X Gm (c.fact 15 rfl)
  kp_x_law_words := He.keep_ok (c.fact 16 rfl)
  g_x_law_near := He.glo_ok X Gm (c.fact 17 rfl)
  kp_x_law_near := He.keep_ok (c.fact 18 rfl)
  k_str := kit_ok (c.fact 19 rfl)
  b_isinstance := He.free_ok X Gm (c.fact 20 rfl)
  b_int := He.free_ok X Gm (c.fact 21 rfl)
  b_tuple := He.free_ok X Gm (c.fact 22 rfl)
  g_x_law_read := He.glo_ok X Gm (c.fact 23 rfl)
  kp_x_law_read := He.keep_ok (c.fact 24 rfl)
  fl_1_kept := (fun c hc => by cases hc with | head => exact ⟨He.cls_ok (He.ba (c.fact 25 rfl)).1, He.noat_ok (He.ba (c.fact 25 rfl)).2⟩ | tail _ h => cases h)
  b_sorted := He.free_ok X Gm (c.fact 26 rfl)
  b_set := He.free_ok X Gm (c.fact 27 rfl)
  g_variables_of := He.glo_ok X Gm (c.fact 28 rfl)
  kp_variables_of := He.keep_ok (c.fact 29 rfl)
  me_Question___repr := He.meth_ok (c.fact 30 rfl)
  sm := sm_ok (c.fact 31 rfl)
  b_repr := He.free_ok X Gm (c.fact 32 rfl)
  xm_14 := (c.fact 33 rfl)
  ex_NoText := (c.fact 34 rfl)
  g_NoText := He.glo_ok X Gm (c.fact 35 rfl)
  c_DIGITS := He.str_ok X Gm (c.fact 36 rfl)
  g_atom_of_word := He.glo_ok X Gm (c.fact 37 rfl)
  kp_atom_of_word := He.keep_ok (c.fact 38 rfl)
  c_MOST_ATOMS := He.int_ok X Gm (c.fact 39 rfl)
  k_tuple := kit_ok (c.fact 40 rfl)
  t_KINDS := (c.fact 41 rfl)
  g_KINDS := He.glo_ok X Gm (c.fact 42 rfl)
  g_is_kind := He.glo_ok X Gm (c.fact 43 rfl)
  kp_is_kind := He.keep_ok (c.fact 44 rfl)
  k_int := kit_ok (c.fact 45 rfl)
  k_bool := kit_ok (c.fact 46 rfl)
  b_bool := He.free_ok X Gm (c.fact 47 rfl)
  g_is_integer := He.glo_ok X Gm (c.fact 48 rfl)
  kp_is_integer := He.keep_ok (c.fact 49 rfl)
  c_MOST_VARIABLE := He.int_ok X Gm (c.fact 50 rfl)
  g_is_between := He.glo_ok X Gm (c.fact 51 rfl)
  kp_is_between := He.keep_ok (c.fact 52 rfl)
  g_is_atom := He.glo_ok X Gm (c.fact 53 rfl)
  kp_is_atom := He.keep_ok (c.fact 54 rfl)
  b_all := He.free_ok X Gm (c.fact 55 rfl)
  g_are_atoms := He.glo_ok X Gm (c.fact 56 rfl)
  kp_are_atoms := He.keep_ok (c.fact 57 rfl)
  ex_NoAtoms := (c.fact 58 rfl)
  g_NoAtoms := He.glo_ok X Gm (c.fact 59 rfl)
  mk_1 := He.mkr_ok (c.fact 60 rfl)
  kp_Question := He.keep_ok (c.fact 61 rfl)
  cm_Question_read := cmet_ok (c.fact 62 rfl)
  g_Question := He.glo_ok X Gm (c.fact 63 rfl)
  pr_Question_atoms := propOf_ok (c.fact 64 rfl)
  cl_1 := He.cls_ok (c.fact 65 rfl)
  g_x_law_is_equal := He.glo_ok X Gm (c.fact 66 rfl)
  kp_x_law_is_equal := He.keep_ok (c.fact 67 rfl)
  me_Question_text := He.meth_ok (c.fact 68 rfl)
  k_Question := kit_ok (c.fact 69 rfl)
  me_Question___eq := He.meth_ok (c.fact 70 rfl)
  g_x_law_is_right := He.glo_ok X Gm (c.fact 71 rfl)
  kp_x_law_is_right := He.keep_ok (c.fact 72 rfl)
  g_law := He.glo_ok X Gm (c.fact 73 rfl)
  noT := noT_ok (c.fact 74 rfl)
  d_x_law_source := c.def_ 0 (d := e_x_law_source) rfl
  d_x_law_cell := c.def_ 1 (d := e_x_law_cell) rfl
  d_x_law_words := c.def_ 2 (d := e_x_law_words) rfl
  d_x_law_draw := c.def_ 3 (d := e_x_law_draw) rfl
  d_x_law_choose := c.def_ 4 (d := e_x_law_choose) rfl
  d_x_law_some := c.def_ 5 (d := e_x_law_some) rfl
  d_x_law_near := c.def_ 6 (d := e_x_law_near) rfl
  d_x_law_read := c.def_ 7 (d := e_x_law_read) rfl
  d_variables_of := c.def_ 8 (d := e_variables_of) rfl
  d_Question___repr := c.def_ 9 (d := e_Question___repr) rfl
  d_atom_of_word := c.def_ 10 (d := e_atom_of_word) rfl
  d_is_kind := c.def_ 11 (d := e_is_kind) rfl
  d_is_integer := c.def_ 12 (d := e_is_integer) rfl
  d_is_between := c.def_ 13 (d := e_is_between) rfl
  d_is_atom := c.def_ 14 (d := e_is_atom) rfl
  d_are_atoms := c.def_ 15 (d := e_are_atoms) rfl
  d_Question___init := c.def_ 16 (d := e_Question___init) rfl
  d_Question_read := c.def_ 17 (d := e_Question_read) rfl
  d_x_law_is_equal := c.def_ 18 (d := e_x_law_is_equal) rfl
  d_Question_atoms := c.def_ 19 (d := e_Question_atoms) rfl
  d_Question_text := c.def_ 20 (d := e_Question_text) rfl
  d_Question___eq := c.def_ 21 (d := e_Question___eq) rfl
  d_x_law_is_right := c.def_ 22 (d := e_x_law_is_right) rfl
  d_law := c.def_ 23 (d := e_law) rfl
end Cq.K61

set_option Elab.async false
set_option linter.all false
set_option maxRecDepth 100000
set_option maxHeartbeats 1000000
namespace Cq
open PySem PySem.Spec PyProof.Rows L2
/-- a mark beside a term that is left as it is -/
structure Tk {α : Sort _} (f : α) : Type where
def bindO {α β : Type} (o : Option (Res α)) (f : α → M β) (_ : Tk f) : Option (Res β) := match o with
  | some (.ok a g) => f a g
  | some (.ex c g) => some (.ex c g)
  | none => none
theorem bindE {α β : Type} {m : M α} {f : α → M β} {g : Gm} : M.bind m f g = bindO (m g) f ⟨⟩ := by
  unfold M.bind bindO
  cases m g with
  | none => rfl
  | some r => cases r <;> rfl
theorem bindO_ok {α β : Type} {a : α} {g : Gm} {f : α → M β} {u : Tk f} : bindO (some (.ok a g)) f u = f a g := rfl
theorem bindO_ex {α β : Type} {c : Nat} {g : Gm} {f : α → M β} {u : Tk f} : bindO (some (.ex c g)) f u = some (.ex c g) := rfl
theorem bindO_none {α β : Type} {f : α → M β} {u : Tk f} : bindO none f u = none := rfl
def seqO (o : Option (Res Fl)) (n : M Fl) (_ : Tk n) : Option (Res Fl) := match o with
  | some (.ok .nx g) => n g
  | o => o
theorem seqE {m n : M Fl} {g : Gm} : mSeq m n g = seqO (m g) n ⟨⟩ := by
  unfold mSeq seqO
  cases m g with
  | none => rfl
  | some r => cases r with
    | ok f g => cases f <;> rfl
    | ex c g => rfl
theorem seqO_nx {g : Gm} {n : M Fl} {u : Tk n} : seqO (some (.ok .nx g)) n u = n g := rfl
theorem seqO_rt {d : D} {g : Gm} {n : M Fl} {u : Tk n} : seqO (some (.ok (.rt d) g)) n u = some (.ok (.rt d) g) := rfl
theorem seqO_rn {d : D} {g : Gm} {n : M Fl} {u : Tk n} : seqO (some (.ok (.rn d) g)) n u = some (.ok (.rn d) g) := rfl
theorem seqO_bk {g : Gm} {n : M Fl} {u : Tk n} : seqO (some (.ok .bk g)) n u = some (.ok .bk g) := rfl
theorem seqO_ct {g : Gm} {n : M Fl} {u : Tk n} : seqO (some (.ok .ct g)) n u = some (.ok .ct g) := rfl
theorem seqO_ex {c : Nat} {g : Gm} {n : M Fl} {u : Tk n} : seqO (some (.ex c g)) n u = some (.ex c g) := rfl
theorem seqO_none {n : M Fl} {u : Tk n} : seqO none n u = none := rfl
theorem retE {α : Type} {a : α} {g : Gm} : M.ret a g = some (.ok a g) := rfl
theorem failE {α : Type} {g : Gm} : (M.fail : M α) g = none := rfl
/-- a branch: the test first -/
def ifO {α : Type} (b : Bool) (m n : M α) (_ : Tk m) (_ : Tk n) : M α := if b = true then m else n
theorem ifE {α : Type} {b : Bool} {m n : M α} {g : Gm} : (if b = true then m else n) g = ifO b m n ⟨⟩ ⟨⟩ g := rfl
theorem ifO_t {α : Type} {m n : M α} {u : Tk m} {v : Tk n} {g : Gm} : ifO true m n u v g = m g := rfl
theorem ifO_f {α : Type} {m n : M α} {u : Tk m} {v : Tk n} {g : Gm} : ifO false m n u v g = n g := rfl
theorem nmE {i : Nat} {g : Gm} {s : Sl} (h : g[i]? = some s) (n : s ≠ .un) : mNm i g = some (.ok (.nm i) g) := by
  unfold mNm
  rw [h]
  cases s <;> first | rfl | exact absurd rfl n
/-- an operation's answer -/
def ansO (o : Option D) (g : Gm) : Option (Res D) := match o with
  | some z => some (.ok z g)
  | none => none
theorem ansO_some {z : D} {g : Gm} : ansO (some z) g = some (.ok z g) := rfl
theorem ansO_none {g : Gm} : ansO none g = none := rfl
theorem f2E {f : D → D → Option D} {a b : Hd} {g : Gm} : mF2 f a b g = bindO (match a.rd g, b.rd g with | some d, some e => some (Res.ok (d, e) g) | _, _ => none) (fun p g => ansO (f p.1 p.2) g) ⟨⟩ := by
  unfold mF2
  cases a.rd g <;> cases b.rd g <;> rfl
theorem f1E {f : D → Option D} {a : Hd} {g : Gm} : mF1 f a g = bindO (match a.rd g with | some d => some (Res.ok d g) | _ => none) (fun d g => ansO (f d) g) ⟨⟩ := by
  unfold mF1
  cases a.rd g <;> rfl
theorem fsE {f : List D → Option D} {a : List Hd} {g : Gm} : mFs f a g = bindO (match rdAll g a with | some d => some (Res.ok d g) | _ => none) (fun d g => ansO (f d) g) ⟨⟩ := by
  unfold mFs
  cases rdAll g a <;> rfl
theorem atI_l {α : Type} {xs : List α} {i : Int} {j : Nat} (h : i = (j : Int)) (l : j < xs.length) : atI xs i = xs[j]? := by
  subst h
  simp [atI, ixN, l]
theorem dmod {i j : Int} (h : 0 < j) : dMod (.int i) (.int j) = some (.int (i % j)) := if_pos h
theorem ddiv {i j : Int} (h : 0 < j) (h2 : j < 1073741824) : dDiv (.int i) (.int j) = some (.int (i / j)) := if_pos ⟨h, h2⟩
theorem dmulr {i j : Int} (h : j.natAbs < 2 ^ 64) : dMul (.int i) (.int j) = some (.int (i * j)) := if_pos (.inr h)
theorem dmull {i j : Int} (h : i.natAbs < 2 ^ 64) : dMul (.int i) (.int j) = some (.int (i * j)) := if_pos (.inl h)
theorem dadd {i j : Int} : dAdd (.int i) (.int j) = some (.int (i + j)) := rfl
theorem dsub {i j : Int} : dSub (.int i) (.int j) = some (.int (i - j)) := rfl
theorem dgt {i j : Int} {f : Int → Int → Bool} : dI f (.int i) (.int j) = some (.bl (f i j)) := rfl
/-- what follows a test, by the answer -/
def andK (mb : M D) : D → M D
  | .bl true => mb
  | .bl false => M.ret (.bl false)
  | _ => M.fail
theorem andE {ma mb : M D} {g : Gm} : mAndD ma mb g = bindO (ma g) (andK mb) ⟨⟩ := by
  unfold mAndD
  rw [bindE]
  rfl
theorem andK_t {mb : M D} {g : Gm} : andK mb (.bl true) g = mb g := rfl
theorem andK_f {mb : M D} {g : Gm} : andK mb (.bl false) g = some (.ok (.bl false) g) := rfl
def orK (mb : M D) : D → M D
  | .bl false => mb
  | .bl true => M.ret (.bl true)
  | _ => M.fail
theorem orE {ma mb : M D} {g : Gm} : mOrD ma mb g = bindO (ma g) (orK mb) ⟨⟩ := by
  unfold mOrD
  rw [bindE]
  have e : (fun c : D => (match c with | .bl true => M.ret (.bl true) | .bl false => mb | _ => M.fail : M D)) = orK mb := by
    funext c
    cases c with
    | bl b => cases b <;> rfl
    | _ => rfl
  unfold bindO
  cases ma g with
  | none => rfl
  | some r => cases r with
    | ok a g => exact congrFun (congrFun e a) g
    | ex c g => rfl
theorem orK_t {mb : M D} {g : Gm} : orK mb (.bl true) g = some (.ok (.bl true) g) := rfl
theorem orK_f {mb : M D} {g : Gm} : orK mb (.bl false) g = mb g := rfl
def andBK (mb : M Bool) (c : Bool) : M Bool := if c = true then mb else M.ret false
theorem andBE {ma mb : M Bool} {g : Gm} : mAndB ma mb g = bindO (ma g) (andBK mb) ⟨⟩ := by
  unfold mAndB
  rw [bindE]
  rfl
theorem andBK_t {mb : M Bool} {g : Gm} : andBK mb true g = mb g := rfl
theorem andBK_f {mb : M Bool} {g : Gm} : andBK mb false g = some (.ok false g) := rfl
def orBK (mb : M Bool) (c : Bool) : M Bool := if c = true then M.ret true else mb
theorem orBE {ma mb : M Bool} {g : Gm} : mOrB ma mb g = bindO (ma g) (orBK mb) ⟨⟩ := by
  unfold mOrB
  rw [bindE]
  rfl
theorem orBK_t {mb : M Bool} {g : Gm} : orBK mb true g = some (.ok true g) := rfl
theorem orBK_f {mb : M Bool} {g : Gm} : orBK mb false g = mb g := rfl
def chK (f' : D → D → Option D) (mc : M Hd) (b : Hd) : D → M D
  | .bl true => mc.bind fun c => mF2 f' b c
  | .bl false => M.ret (.bl false)
  | _ => M.fail
theorem chE {f f' : D → D → Option D} {ma mb mc : M Hd} {g : Gm} : mChain f f' ma mb mc g = bindO (ma g) (fun a => mb.bind fun b => (mF2 f a b).bind (chK f' mc b)) ⟨⟩ := by
  unfold mChain
  rw [bindE]
  rfl
theorem chK_t {f' : D → D → Option D} {mc : M Hd} {b : Hd} {g : Gm} : chK f' mc b (.bl true) g = bindO (mc g) (fun c => mF2 f' b c) ⟨⟩ := bindE
theorem chK_f {f' : D → D → Option D} {mc : M Hd} {b : Hd} {g : Gm} : chK f' mc b (.bl false) g = some (.ok (.bl false) g) := rfl
theorem lcL_run {T : Tgt} {c : M Bool} {e : M D} {vs : List Nat} {w : Gm} {p : D → Bool} {h : D → D} : ∀ {ds : List D} {g : Gm}, wipeG g vs = w →
    (∀ d ∈ ds, ∃ g1, T d w = some g1 ∧ c g1 = some (.ok (p d) g1) ∧ (p d = true → e g1 = some (.ok (h d) g1)) ∧ wipeG g1 vs = w) → ∃ g', lcL T c e vs ds g = some ((ds.filter p).map h, g') ∧ wipeG g' vs = w
  | [], g, hw, _ => ⟨g, rfl, hw⟩
  | d :: ds, g, hw, hb => by
    obtain ⟨g1, h1, h2, h3, h4⟩ := hb d List.mem_cons_self
    have hb' := fun d' hd => hb d' (List.mem_cons_of_mem d hd)
    obtain ⟨g', k1, k2⟩ := lcL_run (ds := ds) h4 hb'
    refine ⟨g', ?_, k2⟩
    simp only [lcL, hw, h1, h2]
    cases hp : p d with
    | false => simp only [k1, List.filter_cons, hp, Bool.false_eq_true, if_false]
    | true => simp only [h3 hp, k1, List.filter_cons, hp, if_true, List.map_cons]
theorem mLc_run {l : Option Nat} {it : M (List D)} {vs : List Nat} {T : Tgt} {c : M Bool} {e : M D} {g : Gm} {ds : List D} (p : D → Bool) (h : D → D) (hi : it g = some (.ok ds g)) (pl : plainAt (lendOut l g) vs = true) (hl : ds.length ≤ 1000000)
    (hle : lendIn l g (lendOut l g) = some g) (hre : restG (lendOut l g) (wipeG (lendOut l g) vs) vs = lendOut l g)
    (hb : ∀ d ∈ ds, ∃ g1, T d (wipeG (lendOut l g) vs) = some g1 ∧ c g1 = some (.ok (p d) g1) ∧ (p d = true → e g1 = some (.ok (h d) g1)) ∧ wipeG g1 vs = wipeG (lendOut l g) vs) : mLc l it vs T c e g = some (.ok (.lst ((ds.filter p).map h)) g) := by
  obtain ⟨g', k1, k2⟩ := lcL_run (p := p) (h := h) (g := lendOut l g) rfl hb
  unfold mLc
  simp only [bindE, hi, bindO_ok, pl, if_true, k1, hl, k2, hre, hle]
theorem forL_run {T : Tgt} {body : M Fl} (I : List D → Gm → Prop) : ∀ {ds : List D} {g : Gm}, I ds g → (∀ d r g, I (d :: r) g → ∃ g1 g2, T d g = some g1 ∧ body g1 = some (.ok .nx g2) ∧ I r g2) → ∃ g', forL T body ds g = some (.ok .nx g') ∧ I [] g'
  | [], g, hi, _ => ⟨g, rfl, hi⟩
  | d :: r, g, hi, hs => by
    obtain ⟨g1, g2, h1, h2, h3⟩ := hs d r g hi
    obtain ⟨g', k1, k2⟩ := forL_run I h3 hs
    exact ⟨g', by simp only [forL, h1, h2, k1], k2⟩
theorem back_none {α : Type} {g : Gm} {o : Option (Res α)} : mBack none g o = o := by
  cases o with
  | none => rfl
  | some r => cases r <;> rfl
theorem for_im {i : Nat} {T : Tgt} {body : M Fl} {g : Gm} {d : D} {ds : List D} (h : g[i]? = some (.im d)) (hd : itD d = some ds) : mFor (some i) (mItN i) T body g = forL T body ds g := by
  have hi : mItN i g = some (.ok ds g) := by simp only [mItN, Hd.rd, h, hd]
  have hl : lendOut (some i) g = g := by simp only [lendOut, h]
  have hb : ∀ o : Option (Res Fl), mBack (some i) g o = o := fun o => by
    cases o with
    | none => rfl
    | some r => cases r <;> simp only [mBack, lendIn, h]
  unfold mFor
  rw [bindE, hi, bindO_ok, hl, hb]
end Cq

set_option Elab.async false
set_option linter.all false
set_option maxRecDepth 100000
set_option maxHeartbeats 1000000
namespace Cq.Sp
open PySem PySem.Spec PyProof.Rows L2 Cq
structure So where
  a : Int
  b : Int
  c : Int
def so (s : So) : D := .lst [.int s.a, .int s.b, .int s.c]
theorem so_flat (s : So) : (so s).flat = true := rfl
theorem ix0 {a b c : Int} : dIx (.lst [.int a, .int b, .int c]) (.int 0) = some (.int a) := by simp [dIx, atI, ixN]
theorem ix1 {a b c : Int} : dIx (.lst [.int a, .int b, .int c]) (.int 1) = some (.int b) := by simp [dIx, atI, ixN]
theorem ix2 {a b c : Int} : dIx (.lst [.int a, .int b, .int c]) (.int 2) = some (.int c) := by simp [dIx, atI, ixN]
theorem st0 {a b c w : Int} : fSetL (.lst [.int a, .int b, .int c]) [.int 0, .int w] = some (.non, .lst [.int w, .int b, .int c]) := by simp [fSetL, ixN]
theorem st1 {a b c w : Int} : fSetL (.lst [.int a, .int b, .int c]) [.int 1, .int w] = some (.non, .lst [.int a, .int w, .int c]) := by simp [fSetL, ixN]
theorem st2 {a b c w : Int} : fSetL (.lst [.int a, .int b, .int c]) [.int 2, .int w] = some (.non, .lst [.int a, .int b, .int w]) := by simp [fSetL, ixN]
theorem lit0 : (0 : Nat) ≤ 1000000 := by decide
theorem lit1 : (1 : Nat) ≤ 1000000 := by decide
theorem lit2 : (2 : Nat) ≤ 1000000 := by decide
theorem lit3 : (3 : Nat) ≤ 1000000 := by decide
theorem lit5 : (5 : Nat) ≤ 1000000 := by decide
theorem lit6 : (6 : Nat) ≤ 1000000 := by decide
mutual
inductive Shw : D → Nat → Nat → Prop
  | non {k : Nat} : Shw .non 25 k
  | bl {b : Bool} {k : Nat} : Shw (.bl b) 25 k
  | int {i : Int} {k : Nat} : i.natAbs < 2 ^ 64 → Shw (.int i) 25 k
  | str {x : Str} {n k : Nat} : (reprText x).length ≤ n → Shw (.str x) n k
  | tup {ds : List D} {n k : Nat} : Shws ds n k → Shw (.tup ds) (n + 3) (k + 1)
  | lst {ds : List D} {n k : Nat} : Shws ds n k → Shw (.lst ds) (n + 3) (k + 1)
inductive Shws : List D → Nat → Nat → Prop
  | nil {k : Nat} : Shws [] 0 k
  | cons {d : D} {ds : List D} {n m k : Nat} : Shw d n k → Shws ds m k → Shws (d :: ds) (n + m + 2) k
end

theorem int_len {i : Int} (h : i.natAbs < 2 ^ 64) : (PyData.shown (.int i)).length ≤ 25 := by
  have l : ∀ n : Nat, n < 2 ^ 64 → (Str.ofString (toString ((n : Nat) : Int))).length ≤ 20 := fun n hn => by
    have e : (Str.ofString (toString ((n : Nat) : Int))).length = (TL.numL n).length := by rw [← TL.tl_num n]; rfl
    rw [e]
    exact TL.numL_len (by decide) (Nat.lt_of_lt_of_le hn (by decide))
  cases i with
  | ofNat n => exact Nat.le_trans (l n (by simpa using h)) (by decide)
  | negSucc n =>
    have e : toString (Int.negSucc n) = "-" ++ toString (((n + 1 : Nat) : Nat) : Int) := rfl
    show (Str.ofString (toString (Int.negSucc n))).length ≤ 25
    rw [e]
    have e2 : (Str.ofString ("-" ++ toString (((n + 1 : Nat) : Nat) : Int))).length = 1 + (Str.ofString (toString (((n + 1 : Nat) : Nat) : Int))).length := by
      have := congrArg List.length (TL.tl_ofString ("-" ++ toString (((n + 1 : Nat) : Nat) : Int)))
      have t2 := congrArg List.length (TL.tl_ofString (toString (((n + 1 : Nat) : Nat) : Int)))
      simp only [List.length_map, String.toList_append, List.length_append] at this t2
      show (TL.tl (Str.ofString ("-" ++ toString (((n + 1 : Nat) : Nat) : Int)))).length = 1 + (TL.tl (Str.ofString (toString (((n + 1 : Nat) : Nat) : Int)))).length
      rw [this, t2]
      rfl
    rw [e2]
    have := l (n + 1) (by simpa using h)
    omega
mutual
theorem Shw.py : ∀ {d : D} {n k : Nat}, Shw d n k → ∃ p, d.py = some p ∧ (p.showable && !p.hasDict) = true ∧ p.shown.length ≤ n ∧ p.depth ≤ k
  | _, _, _, .non => ⟨.none, rfl, rfl, by decide, Nat.zero_le _⟩
  | _, _, _, .bl (b := b) => ⟨.bool b, rfl, rfl, by cases b <;> decide, Nat.zero_le _⟩
  | _, _, _, .int (i := i) h => ⟨.int i, rfl, by
      have := log64 h
      simp [PyData.showable, PyData.hasDict, this], int_len h, Nat.zero_le _⟩
  | _, _, _, .str (x := x) h => ⟨.str x, rfl, by simp [PyData.showable, PyData.hasDict], by simp only [PyData.shown]; exact h, Nat.zero_le _⟩
  | _, _, _, .tup h => by
    obtain ⟨ps, e, a, b, c⟩ := Shws.py h
    refine ⟨.tuple ps, by simp only [D.py, e, Option.map_some], by simp only [PyData.showable, PyData.hasDict]; exact a, ?_, ?_⟩
    · simp only [PyData.shown]
      have := tupleText_len_le (PyData.shownAll ps)
      have := PyData.shownAll_length ps
      omega
    · simp only [PyData.depth]; omega
  | _, _, _, .lst h => by
    obtain ⟨ps, e, a, b, c⟩ := Shws.py h
    refine ⟨.list ps, by simp only [D.py, e, Option.map_some], by simp only [PyData.showable, PyData.hasDict]; exact a, ?_, ?_⟩
    · simp only [PyData.shown]
      have := listText_len_le (PyData.shownAll ps)
      have := PyData.shownAll_length ps
      omega
    · simp only [PyData.depth]; omega
theorem Shws.py : ∀ {ds : List D} {n k : Nat}, Shws ds n k → ∃ ps, pyL ds = some ps ∧ (PyData.showableAll ps && !PyData.hasDictAll ps) = true ∧ ((PyData.shownAll ps).map (·.length)).sum + 2 * ps.length ≤ n ∧ PyData.depthAll ps ≤ k
  | _, _, _, .nil => ⟨[], rfl, rfl, by simp [PyData.shownAll], by simp [PyData.depthAll]⟩
  | _, _, _, .cons h t => by
    obtain ⟨p, e, a, b, c⟩ := Shw.py h
    obtain ⟨ps, e', a', b', c'⟩ := Shws.py t
    refine ⟨p :: ps, by simp only [pyL, e, e'], ?_, ?_, ?_⟩
    · simp only [PyData.showableAll, PyData.hasDictAll, Bool.and_eq_true, Bool.not_eq_true', Bool.or_eq_false_iff] at a a' ⊢
      exact ⟨⟨a.1, a'.1⟩, a.2, a'.2⟩
    · simp only [PyData.shownAll, List.map_cons, List.sum_cons, List.length_cons]; omega
    · simp only [PyData.depthAll]; omega
end
mutual
theorem Shw.mono : ∀ {d : D} {n k m j : Nat}, Shw d n k → n ≤ m → k ≤ j → ∃ m' ≤ m, Shw d m' j
  | _, _, _, _, _, .non, h, _ => ⟨_, h, .non⟩
  | _, _, _, _, _, .bl, h, _ => ⟨_, h, .bl⟩
  | _, _, _, _, _, .int i, h, _ => ⟨_, h, .int i⟩
  | _, _, _, _, _, .str i, h, _ => ⟨_, h, .str i⟩
  | _, _, _, m, j + 1, .tup t, h, hk => by obtain ⟨m', l, t'⟩ := Shws.mono t (Nat.le_refl _) (Nat.le_of_succ_le_succ hk); exact ⟨m' + 3, by omega, .tup t'⟩
  | _, _, _, m, j + 1, .lst t, h, hk => by obtain ⟨m', l, t'⟩ := Shws.mono t (Nat.le_refl _) (Nat.le_of_succ_le_succ hk); exact ⟨m' + 3, by omega, .lst t'⟩
  | _, _, _, _, 0, .tup t, _, hk => absurd hk (Nat.not_succ_le_zero _)
  | _, _, _, _, 0, .lst t, _, hk => absurd hk (Nat.not_succ_le_zero _)
theorem Shws.mono : ∀ {ds : List D} {n k m j : Nat}, Shws ds n k → n ≤ m → k ≤ j → ∃ m' ≤ m, Shws ds m' j
  | _, _, _, _, _, .nil, h, _ => ⟨_, h, .nil⟩
  | _, _, _, _, _, .cons a t, h, hk => by
    obtain ⟨m1, l1, a'⟩ := Shw.mono a (Nat.le_refl _) hk
    obtain ⟨m2, l2, t'⟩ := Shws.mono t (Nat.le_refl _) hk
    exact ⟨_, by omega, .cons a' t'⟩
end
theorem Shws.map {α : Type} {f : α → D} {n k : Nat} : ∀ {xs : List α}, (∀ x ∈ xs, Shw (f x) n k) → Shws (xs.map f) (xs.length * (n + 2)) k
  | [], _ => by simpa using Shws.nil
  | x :: xs, h => by
    have t := Shws.map (xs := xs) fun y hy => h y (List.mem_cons_of_mem _ hy)
    have := Shws.cons (h x List.mem_cons_self) t
    rw [List.map_cons, List.length_cons, Nat.add_mul, Nat.one_mul]
    rw [show xs.length * (n + 2) + (n + 2) = n + xs.length * (n + 2) + 2 by omega]
    exact this
theorem repr_ok {d : D} {n k : Nat} (h : Shw d n k) (hn : n ≤ 1000000) (hk : k ≤ 60) : ∃ x, dRepr [d] = some (.str x) := by
  obtain ⟨p, e, a, b, c⟩ := h.py
  refine ⟨p.shown, ?_⟩
  simp only [dRepr, e]
  rw [if_pos ⟨a, by omega, by omega⟩]
theorem eq_self {x : Str} : dEq (.str x) (.str x) = some (.bl true) := by simp [dEq]
end Cq.Sp

set_option Elab.async false
set_option linter.all false
set_option maxRecDepth 100000
set_option maxHeartbeats 1000000
namespace Cq.Sp
open PySem PySem.Spec PyProof.Rows L2 Cq
theorem lc_map {α : Type} {l : Option Nat} {it : M (List D)} {vs : List Nat} {T : Tgt} {e : M D} {g : Gm} {xs : List α} (enc out : α → D) (hi : it g = some (.ok (xs.map enc) g)) (pl : plainAt (lendOut l g) vs = true) (hl : xs.length ≤ 1000000)
    (hle : lendIn l g (lendOut l g) = some g) (hre : restG (lendOut l g) (wipeG (lendOut l g) vs) vs = lendOut l g)
    (hb : ∀ x ∈ xs, ∃ g1, T (enc x) (wipeG (lendOut l g) vs) = some g1 ∧ e g1 = some (.ok (out x) g1) ∧ wipeG g1 vs = wipeG (lendOut l g) vs) : mLc l it vs T (M.ret true) e g = some (.ok (.lst (xs.map out)) g) := by
  have lc : ∀ (ys : List α) (g' : Gm), (∀ x ∈ ys, x ∈ xs) → wipeG g' vs = wipeG (lendOut l g) vs → ∃ g2, lcL T (M.ret true) e vs (ys.map enc) g' = some (ys.map out, g2) ∧ wipeG g2 vs = wipeG (lendOut l g) vs := by
    intro ys
    induction ys with
    | nil => intro g' _ hw; exact ⟨g', rfl, hw⟩
    | cons y ys ih =>
      intro g' hm hw
      obtain ⟨g1, h1, h2, h3⟩ := hb y (hm y List.mem_cons_self)
      obtain ⟨g2, k1, k2⟩ := ih g1 (fun x hx => hm x (List.mem_cons_of_mem _ hx)) h3
      exact ⟨g2, by simp only [List.map_cons, lcL, hw, h1, M.ret, h2, k1], k2⟩
  obtain ⟨g2, k1, k2⟩ := lc xs (lendOut l g) (fun _ h => h) rfl
  unfold mLc
  simp only [bindE, hi, bindO_ok, pl, if_true, k1, List.length_map, hl, k2, hre, hle]
theorem for_st {it : M (List D)} {T : Tgt} {body : M Fl} {g g1 : Gm} {ds : List D} (hi : it g = some (.ok ds g1)) : mFor none it T body g = forL T body ds g1 := by
  unfold mFor
  simp only [bindE, hi, bindO_ok, lendOut, back_none]
theorem rng_nat {n : Int} (h : -4611686018427387904 ≤ n ∧ n < 4611686018427387904) : rng1 [.int n] = some (rngD 0 n.toNat) := by
  simp only [rng1]
  rw [if_pos (by omega)]
theorem mem_rng {d : D} {lo : Int} {n : Nat} (h : d ∈ rngD lo n) : ∃ i : Nat, i < n ∧ d = .int (lo + (i : Int)) := by
  obtain ⟨i, hi, rfl⟩ := List.mem_map.mp h
  exact ⟨i, List.mem_range.mp hi, rfl⟩
/-- the classes whose instances may be looked at -/
abbrev CS : List Nat := [0]
def okI : D → Bool
  | .scr _ => false
  | .glo _ => false
  | .ktp _ => false
  | .lam _ _ _ _ => false
  | .ixt _ => false
  | .ins c _ => CS.contains c
  | _ => true
theorem isi_ok {T : Ty} {d : D} (h : okI d = true) : dIsi [0, 1] T d = some (.bl (isTy T d)) := by
  cases d <;> simp_all [okI, dIsi]
def kinds : List Str := ["A", "B", "C"]
def isK : D → Bool
  | .str x => decide (x ∈ kinds)
  | _ => false
theorem in_kinds {x : Str} : dIn (.str x) (.tup ((["A", "B", "C"] : List Str).map .str)) = some (.bl (decide (x ∈ kinds))) := by
  have e : ((["A", "B", "C"] : List Str).map D.str).any (fun z => eqF z (.str x)) = decide (x ∈ kinds) := by
    simp only [List.map_cons, List.map_nil, List.any_cons, List.any_nil, eqF, Bool.or_false, kinds]
    rw [Bool.eq_iff_iff]
    simp only [Bool.or_eq_true, decide_eq_true_eq, List.mem_cons, List.not_mem_nil, or_false]
    constructor
    · rintro (h | h | h)
      · exact .inl h.symm
      · exact .inr (.inl h.symm)
      · exact .inr (.inr h.symm)
    · rintro (h | h | h)
      · exact .inl h.symm
      · exact .inr (.inl h.symm)
      · exact .inr (.inr h.symm)
  simp only [dIn, ← e]
  rfl
theorem kind_ok {d : D} (h : okI d = true) : f_is_kind [d] = some (.ret (.bl (isK d)) []) := by
  have h1 := isi_ok (T := .str) h
  unfold f_is_kind m_is_kind
  cases d with
  | str x => simp (config := { decide := false }) only [↓runDef, gOf, slotOf, endMs, ↓seqE, ↓bindE, bindO_ok, bindO_ex, bindO_none, seqO_nx, seqO_rt, seqO_rn, seqO_bk, seqO_ct, seqO_ex, seqO_none, ↓retE, ↓failE, ↓ifE, ↓andE, ↓andK_t, ↓andK_f, ↓orE, ↓orK_t, ↓orK_f, ↓andBE, ↓andBK_t, ↓andBK_f, ↓orBE, ↓orBK_t, ↓orBK_f, ↓chE, ↓chK_t, ↓chK_f, ifO_t, ifO_f, ↓mVa, ↓mFz, ↓mNm, ↓mFrz, ↓mOp2, ↓mOp1, ↓f2E, ↓f1E, ↓fsE, ansO_some, ansO_none, rdAll, Hd.rd, D.flat, ↓mCons, ↓mCall, ↓mTup, ↓mLst, ↓mFrzs, dBool, dadd, dsub, dgt, dMax2, dMin2, ↓mSet, ↓mSetN, ↓mSetIx, mKindN, isKindN, mWr, beq_self_eq_true, Sl.cell, Sl.put, ↓mFrzM, argDs, argD, apartB, putMu, ↓mCallF, ↓mCallN, Hd.isNm, nmu, List.cons_append, List.nil_append, List.length_cons, List.length_nil, List.replicate_succ, List.replicate_zero, List.getElem?_cons_zero, List.getElem?_cons_succ, List.set_cons_zero, List.set_cons_succ, List.any_nil, List.any_cons, Nat.reduceAdd, Nat.reduceSub, Nat.reduceBEq, if_true, if_false, Bool.false_eq_true, ↓reduceIte, Option.bind_some, Option.map_some, Bool.or_self, Bool.false_or, Bool.or_false, Bool.true_or, Bool.or_true, List.contains_nil, List.contains_cons, Bool.and_self, Bool.not_false, Bool.not_true, Bool.true_and, Bool.and_true, Bool.false_and, decide_true, decide_false, mIsi, h1, isTy, in_kinds, isK]
  | _ => simp (config := { decide := false }) only [↓runDef, gOf, slotOf, endMs, ↓seqE, ↓bindE, bindO_ok, bindO_ex, bindO_none, seqO_nx, seqO_rt, seqO_rn, seqO_bk, seqO_ct, seqO_ex, seqO_none, ↓retE, ↓failE, ↓ifE, ↓andE, ↓andK_t, ↓andK_f, ↓orE, ↓orK_t, ↓orK_f, ↓andBE, ↓andBK_t, ↓andBK_f, ↓orBE, ↓orBK_t, ↓orBK_f, ↓chE, ↓chK_t, ↓chK_f, ifO_t, ifO_f, ↓mVa, ↓mFz, ↓mNm, ↓mFrz, ↓mOp2, ↓mOp1, ↓f2E, ↓f1E, ↓fsE, ansO_some, ansO_none, rdAll, Hd.rd, D.flat, ↓mCons, ↓mCall, ↓mTup, ↓mLst, ↓mFrzs, dBool, dadd, dsub, dgt, dMax2, dMin2, ↓mSet, ↓mSetN, ↓mSetIx, mKindN, isKindN, mWr, beq_self_eq_true, Sl.cell, Sl.put, ↓mFrzM, argDs, argD, apartB, putMu, ↓mCallF, ↓mCallN, Hd.isNm, nmu, List.cons_append, List.nil_append, List.length_cons, List.length_nil, List.replicate_succ, List.replicate_zero, List.getElem?_cons_zero, List.getElem?_cons_succ, List.set_cons_zero, List.set_cons_succ, List.any_nil, List.any_cons, Nat.reduceAdd, Nat.reduceSub, Nat.reduceBEq, if_true, if_false, Bool.false_eq_true, ↓reduceIte, Option.bind_some, Option.map_some, Bool.or_self, Bool.false_or, Bool.or_false, Bool.true_or, Bool.or_true, List.contains_nil, List.contains_cons, Bool.and_self, Bool.not_false, Bool.not_true, Bool.true_and, Bool.and_true, Bool.false_and, decide_true, decide_false, mIsi, h1, isTy, isK]
theorem dlen_t {ds : List D} : dLen [.tup ds] = some (.int ds.length) := rfl
theorem dlen_l {ds : List D} : dLen [.lst ds] = some (.int ds.length) := rfl
theorem dne_int {i j : Int} : dNe (.int i) (.int j) = some (.bl (decide (i ≠ j))) := by
  have s : ∀ k : Int, SeqAt.shaped (.int k) = true := fun k => by simp [SeqAt.shaped, PyData.canLay0, PyData.depth]
  simp [dNe, dNeP, D.py, s, PyData.eqv]
  rw [Bool.eq_iff_iff]; simp
end Cq.Sp

set_option Elab.async false
set_option linter.all false
set_option maxRecDepth 100000
set_option maxHeartbeats 1000000
namespace Cq.Sp
open PySem PySem.Spec PyProof.Rows L2 Cq
structure Row where
  k : Str
  l : Int
  r : Int
  o : Int
  deriving DecidableEq
def Row.d (a : Row) : D := .tup [.str a.k, .int a.l, .int a.r, .int a.o]
def Row.key (a : Row) : Str × Int × Int := (a.k, a.l, a.r)
def kd (x : Str × Int × Int) : D := .tup [.str x.1, .int x.2.1, .int x.2.2]
structure Row.ok (a : Row) : Prop where
  hk : a.k ∈ kinds
  l0 : 0 ≤ a.l
  l1 : a.l ≤ 99
  r0 : 0 ≤ a.r
  r1 : a.r ≤ 99
  o0 : 1 ≤ a.o
  o1 : a.o ≤ 10000
theorem bls_map {α : Type} (f : α → Bool) : ∀ xs : List α, blsOf (xs.map fun x => D.bl (f x)) = some (xs.map f)
  | [] => rfl
  | x :: xs => by simp only [List.map_cons, blsOf, bls_map f xs]; rfl
theorem all_map {α : Type} (f : α → Bool) (xs : List α) : dAll [.lst (xs.map fun x => D.bl (f x))] = some (.bl (xs.all f)) := by
  simp only [dAll, bls_map, Option.map_some]
  congr 2
  induction xs with
  | nil => rfl
  | cons x xs ih => simp only [List.map_cons, List.all_cons, ih]; rfl
theorem py_map {α : Type} (f : α → D) (p : α → PyData) : ∀ {xs : List α}, (∀ x ∈ xs, (f x).py = some (p x)) → pyL (xs.map f) = some (xs.map p)
  | [], _ => rfl
  | x :: xs, h => by
    have t := py_map f p (xs := xs) fun y hy => h y (List.mem_cons_of_mem _ hy)
    simp only [List.map_cons, pyL, h x List.mem_cons_self, t]
def pk (x : Str × Int × Int) : PyData := .tuple [.str x.1, .int x.2.1, .int x.2.2]
def Row.p (a : Row) : PyData := .tuple [.str a.k, .int a.l, .int a.r, .int a.o]
/-- a list or a tuple of rows -/
def Seq (q : D) (ds : List D) : Prop := q = .lst ds ∨ q = .tup ds
theorem Seq.it {q : D} {ds : List D} (h : Seq q ds) : itD q = some ds := by rcases h with rfl | rfl <;> rfl
theorem Seq.len {q : D} {ds : List D} (h : Seq q ds) : dLen [q] = some (.int ds.length) := by rcases h with rfl | rfl <;> rfl
theorem Seq.flat {q : D} {ds : List D} (h : Seq q ds) : q.flat = true := by rcases h with rfl | rfl <;> rfl
theorem itN_im {i : Nat} {g : Gm} {q : D} {ds : List D} (h : g[i]? = some (.im q)) (hq : itD q = some ds) : mItN i g = some (.ok ds g) := by
  simp only [mItN, Hd.rd, h, hq]
end Cq.Sp

set_option Elab.async false
set_option linter.all false
set_option maxRecDepth 100000
set_option maxHeartbeats 1000000
namespace Cq.Sp
open PySem PySem.Spec PyProof.Rows L2 Cq
def Row.le (a b : Row) : Bool := leD a.d b.d
theorem leD_total : PySem.W.TotalLe leD := PySem.W.sortLe_total (PyProof.Rows.listOrd PyProof.Rows.itemOrd) false fun b => PySem.W.keyToks (pyD b)
theorem leD_anti {d e : D} (h1 : leD d e = true) (h2 : leD e d = true) : PySem.W.keyToks (pyD d) = PySem.W.keyToks (pyD e) := by
  have a : (PyProof.Rows.listOrd PyProof.Rows.itemOrd).blt (PySem.W.keyToks (pyD e)) (PySem.W.keyToks (pyD d)) = false := by
    have : (!(PyProof.Rows.listOrd PyProof.Rows.itemOrd).blt (PySem.W.keyToks (pyD e)) (PySem.W.keyToks (pyD d))) = true := h1
    simpa using this
  have b : (PyProof.Rows.listOrd PyProof.Rows.itemOrd).blt (PySem.W.keyToks (pyD d)) (PySem.W.keyToks (pyD e)) = false := by
    have : (!(PyProof.Rows.listOrd PyProof.Rows.itemOrd).blt (PySem.W.keyToks (pyD d)) (PySem.W.keyToks (pyD e))) = true := h2
    simpa using this
  exact (PyProof.Rows.listOrd PyProof.Rows.itemOrd).total _ _ b a
structure Good (rs : List Row) : Prop where
  len : rs.length ≤ 12
  ok : ∀ r ∈ rs, r.ok
  nd : (rs.map Row.key).Nodup
/-- a table of these rows -/
def tb (rs : List Row) : D := .ins 0 [(0, .tup (rs.map Row.d))]
def num (i : Int) : Str := ((toString i : String) : Str)
def Row.line (a : Row) : Str := a.k ++ " " ++ num a.l ++ " " ++ num a.r ++ " " ++ num a.o
def Row.ln (a : Row) : Str := a.line ++ ("\n" : Str)
def text (rs : List Row) : Str := Txt.join "" (rs.map Row.ln)
theorem num_nat {i : Int} (h : 0 ≤ i) : TL.tl (num i) = TL.numL i.toNat := by
  have e : i = ((i.toNat : Nat) : Int) := by omega
  unfold num
  generalize i.toNat = n at e
  subst e
  exact TL.tl_num n
theorem len_app (x y : Str) : (x ++ y).length = x.length + y.length := by
  have := congrArg List.length (TL.tl_append x y)
  simpa [TL.len_tl] using this
theorem num_len {i : Int} (h : 0 ≤ i) (h1 : i < 10 ^ 5) : (num i).length ≤ 5 := by
  rw [TL.len_tl, num_nat h]
  exact TL.numL_len (by decide) (by omega)
theorem fmt_num {i : Int} (h : i.natAbs < 2 ^ 64) : dFmt (.int i) = some (.str (num i)) := by simp [dFmt, h, num]
end Cq.Sp

set_option Elab.async false
set_option linter.all false
set_option maxRecDepth 100000
set_option maxHeartbeats 1000000
namespace Cq.Sp
open PySem PySem.Spec PyProof.Rows L2 Cq
theorem mJ_cons {m : M D} {ms : List (M D)} {acc y : Str} {g : Gm} (h : m g = some (.ok (.str y) g)) (l : acc.length + y.length ≤ 1000000) : mJ (m :: ms) acc g = mJ ms (acc ++ y) g := by
  have l' : (acc ++ y).length ≤ 1000000 := by rw [len_app]; exact l
  simp only [mJ, bindE, h, bindO_ok, l', if_true]
theorem mJ_nil {acc : Str} {g : Gm} : mJ [] acc g = some (.ok (.str acc) g) := rfl
theorem strs_of : ∀ ws : List Str, strsOf (ws.map .str) = some ws
  | [] => rfl
  | w :: ws => by simp only [List.map_cons, strsOf, strs_of ws, Option.map_some]
end Cq.Sp

set_option Elab.async false
set_option linter.all false
set_option maxRecDepth 100000
set_option maxHeartbeats 1000000
set_option Elab.async false
set_option linter.all false
set_option maxRecDepth 100000
set_option maxHeartbeats 1000000
set_option Elab.async false
set_option linter.all false
set_option maxRecDepth 100000
set_option maxHeartbeats 1000000
set_option Elab.async false
set_option linter.all false
set_option maxRecDepth 100000
set_option maxHeartbeats 2000000
namespace Cq.Sp
open PySem PyProof.Rows L2 Cq
mutual
def okR : D → Bool
  | .non => true
  | .bl _ => true
  | .int i => decide (i.natAbs < 2 ^ 64)
  | .str _ => true
  | .tup xs => okRs xs
  | .lst xs => okRs xs
  | .dik [] => true
  | _ => false
def okRs : List D → Bool
  | [] => true
  | d :: ds => okR d && okRs ds
end
mutual
def szR : D → Nat
  | .str x => (reprText x).length
  | .tup xs => szRs xs + 3
  | .lst xs => szRs xs + 3
  | _ => 25
def szRs : List D → Nat
  | [] => 0
  | d :: ds => szR d + szRs ds + 2
end
mutual
def dpR : D → Nat
  | .tup xs => dpRs xs + 1
  | .lst xs => dpRs xs + 1
  | .dik _ => 1
  | _ => 0
def dpRs : List D → Nat
  | [] => 0
  | d :: ds => max (dpR d) (dpRs ds)
end
mutual
theorem okR_py : ∀ {d : D}, okR d = true → ∃ p, d.pyd = some p ∧ p.showable = true ∧ p.shown.length ≤ szR d ∧ p.depth ≤ dpR d
  | .non, _ => ⟨.none, by simp only [D.pyd], rfl, by decide, Nat.zero_le _⟩
  | .bl b, _ => ⟨.bool b, by simp only [D.pyd], rfl, by cases b <;> decide, Nat.zero_le _⟩
  | .int i, h => ⟨.int i, by simp only [D.pyd], by
      simp only [okR, decide_eq_true_eq] at h
      have := log64 h
      simp [PyData.showable, this], by simp only [okR, decide_eq_true_eq] at h; exact int_len h, Nat.zero_le _⟩
  | .str x, _ => ⟨.str x, by simp only [D.pyd], by simp [PyData.showable], by simp only [PyData.shown, szR]; exact Nat.le_refl _, Nat.zero_le _⟩
  | .tup xs, h => by
    simp only [okR] at h
    obtain ⟨ps, e, a, b, c⟩ := okRs_py h
    refine ⟨.tuple ps, by simp only [D.pyd, e, Option.map_some], by simp only [PyData.showable]; exact a, ?_, ?_⟩
    · simp only [PyData.shown, szR]
      have := tupleText_len_le (PyData.shownAll ps)
      have := PyData.shownAll_length ps
      omega
    · simp only [PyData.depth, dpR]; omega
  | .lst xs, h => by
    simp only [okR] at h
    obtain ⟨ps, e, a, b, c⟩ := okRs_py h
    refine ⟨.list ps, by simp only [D.pyd, e, Option.map_some], by simp only [PyData.showable]; exact a, ?_, ?_⟩
    · simp only [PyData.shown, szR]
      have := listText_len_le (PyData.shownAll ps)
      have := PyData.shownAll_length ps
      omega
    · simp only [PyData.depth, dpR]; omega
  | .dik [], _ => ⟨.dict [], by simp only [D.pyd, pydK, Option.map_some], by simp [PyData.showable, PyData.showableKv], by decide +kernel, by simp [PyData.depth, PyData.depthKv, dpR]⟩
  | .dik (_ :: _), h => by simp [okR] at h
  | .dit _, h => by simp [okR] at h
  | .ins _ _, h => by simp [okR] at h
  | .scr _, h => by simp [okR] at h
  | .glo _, h => by simp [okR] at h
  | .ktp _, h => by simp [okR] at h
theorem okRs_py : ∀ {ds : List D}, okRs ds = true → ∃ ps, pydL ds = some ps ∧ PyData.showableAll ps = true ∧ ((PyData.shownAll ps).map (·.length)).sum + 2 * ps.length ≤ szRs ds ∧ PyData.depthAll ps ≤ dpRs ds
  | [], _ => ⟨[], by simp only [pydL], rfl, by simp [PyData.shownAll], by simp [PyData.depthAll]⟩
  | d :: ds, h => by
    simp only [okRs, Bool.and_eq_true] at h
    obtain ⟨p, e, a, b, c⟩ := okR_py h.1
    obtain ⟨ps, e', a', b', c'⟩ := okRs_py h.2
    refine ⟨p :: ps, by simp only [pydL, e, e'], by simp only [PyData.showableAll, a, a', Bool.and_self], ?_, ?_⟩
    · simp only [PyData.shownAll, List.map_cons, List.sum_cons, List.length_cons, szRs]; omega
    · simp only [PyData.depthAll, dpRs]; omega
end
structure Vr (x : D) : Prop where
  r : okR x = true
  s : szR x ≤ 500
  d : dpR x ≤ 4
theorem lix {ds : List D} {i : Int} {d : D} {j : Nat} (hi : i = (j : Int)) (h : ds[j]? = some d) : dIx (.lst ds) (.int i) = some d := by
  have l : j < ds.length := (List.getElem?_eq_some_iff.mp h).1
  show atI ds i = _
  rw [atI_l hi l, h]
end Cq.Sp

set_option Elab.async false
set_option linter.all false
set_option maxRecDepth 100000
set_option maxHeartbeats 1000000
namespace Cq.Sp
open PySem PyProof.Rows L2 Cq
def sp (s : Nat) : List Nat → List Nat → List (List Nat)
  | acc, [] => [acc]
  | acc, c :: r => if c = s then acc :: sp s [] r else sp s (acc ++ [c]) r
theorem spl_sp (s : Nat) : ∀ (l acc : List Nat), TL.spl [s] 0 acc l = sp s acc l
  | [], acc => by rw [TL.spl_nil]; rfl
  | c :: r, acc => by
    have e : TL.pre [s] (c :: r) = decide (c = s) := by
      show ([c] == [s]) = _
      rw [Bool.eq_iff_iff]
      simp
    by_cases h : c = s
    · rw [TL.spl_hit (by rw [e]; exact decide_eq_true h)]
      show acc :: TL.spl [s] 0 [] r = _
      rw [spl_sp s r []]
      simp only [sp, h, if_true]
    · rw [TL.spl_miss (by rw [e]; exact decide_eq_false h), spl_sp s r]
      simp only [sp, h, if_false]
def flat (s : Nat) : List (List Nat) → List Nat
  | [] => []
  | [p] => p
  | p :: q :: r => p ++ s :: flat s (q :: r)
theorem sp_ne {s : Nat} : ∀ (l acc : List Nat), sp s acc l ≠ []
  | [], acc => by simp [sp]
  | c :: r, acc => by
    by_cases e : c = s
    · simp [sp, e]
    · simp only [sp, e, if_false]; exact sp_ne r _
theorem sp_len {s : Nat} : ∀ (l acc : List Nat), ((sp s acc l).map List.length).sum + (sp s acc l).length = acc.length + l.length + 1
  | [], acc => by simp [sp]
  | c :: r, acc => by
    by_cases e : c = s
    · have ih := sp_len (s := s) r []
      simp only [sp, e, if_true, List.map_cons, List.sum_cons, List.length_cons, List.length_nil] at ih ⊢
      omega
    · simp only [sp, e, if_false]
      have ih := sp_len (s := s) r (acc ++ [c])
      simp only [List.length_append, List.length_cons, List.length_nil] at ih ⊢
      omega
theorem split_tl (x : Str) {y : Str} {s : Nat} (hy : TL.tl y = [s]) (hs : s < 128) : (Txt.split x y).map TL.tl = sp s [] (TL.tl x) := by
  have k : y.cps.all (· < 256) = true := by
    have e : y.cps.toList = [s] := hy
    rw [← Array.all_toList, e]
    simp
    omega
  rw [TL.split_spl x y (by rw [hy]; simp) (TL.kind_ok k), hy, spl_sp]
theorem split_len (x : Str) {y : Str} {s : Nat} (hy : TL.tl y = [s]) (hs : s < 128) : ((Txt.split x y).map (·.length)).sum + (Txt.split x y).length = x.length + 1 := by
  have e := split_tl x hy hs
  have := sp_len (s := s) (TL.tl x) []
  rw [← e, List.map_map, List.length_map] at this
  have e2 : (Txt.split x y).map (List.length ∘ TL.tl) = (Txt.split x y).map (·.length) := List.map_congr_left fun a _ => (TL.len_tl a).symm
  rw [e2] at this
  rw [TL.len_tl x]
  simpa using this
theorem sp_tl : TL.tl " " = [32] := by decide +kernel
theorem sum_mem {l : List Str} {a : Str} (h : a ∈ l) : a.length ≤ (l.map (·.length)).sum := by
  induction l with
  | nil => cases h
  | cons b l ih =>
    simp only [List.map_cons, List.sum_cons]
    rcases List.mem_cons.mp h with rfl | h
    · omega
    · have := ih h; omega
theorem split_ne (x : Str) {y : Str} {s : Nat} (hy : TL.tl y = [s]) (hs : s < 128) : Txt.split x y ≠ [] := fun z => by
  have e := split_tl x hy hs
  rw [z] at e
  exact sp_ne _ _ e.symm
end Cq.Sp

set_option Elab.async false
set_option linter.all false
set_option maxRecDepth 100000
set_option maxHeartbeats 1000000
set_option Elab.async false
set_option linter.all false
set_option maxRecDepth 100000
set_option maxHeartbeats 1000000
namespace Cq.Sp
open PySem PyProof.Rows L2 Cq
def mx (rs : List Row) : Int := rs.foldl (fun m r => max m (max r.l r.r)) (-1)
theorem ints_of {α : Type} (f : α → Int) : ∀ l : List α, intsOf (l.map fun a => D.int (f a)) = some (l.map f)
  | [] => rfl
  | a :: l => by simp only [List.map_cons, intsOf, ints_of f l, Option.map_some]
def sh (m : Int) (r : Row) : Row := ⟨r.k, r.l + m, r.r + m, r.o⟩
def side (a b : List Row) : List Row := a ++ b.map (sh (mx a + 1))
end Cq.Sp

set_option Elab.async false
set_option linter.all false
set_option maxRecDepth 100000
set_option maxHeartbeats 1000000
namespace Cq.Sp
open PySem PyProof.Rows L2 Cq
def pr (r q : Row) : Row := ⟨r.k, 10 * r.l + q.l, 10 * r.r + q.r, r.o * q.o⟩
def prs (r : Row) (b : List Row) : List Row := (b.filter fun q => decide (q.k = r.k)).map (pr r)
def pairs (a b : List Row) : List Row := a.flatMap fun r => prs r b
end Cq.Sp

set_option Elab.async false
set_option linter.all false
set_option maxRecDepth 100000
set_option maxHeartbeats 1000000
namespace Cq.Sp
open PySem PyProof.Rows L2 Cq
abbrev Ky : Type := Str × Int × Int
def cnt (rs : List Row) (k : Ky) : Int := ((rs.filter fun r => decide (r.key = k)).map Row.o).sum
def rt (all : List Row) (r : Row) : Row := ⟨r.k, r.l, r.r, cnt all r.key⟩
end Cq.Sp

set_option Elab.async false
set_option linter.all false
set_option maxRecDepth 100000
set_option maxHeartbeats 1000000
namespace Cq.Sp
open PySem PyProof.Rows L2 Cq
theorem rng_small {n : Int} (h0 : 0 ≤ n) (h : n ≤ 100) : rng1 [.int n] = some (rngD 0 n.toNat) := rng_nat ⟨Int.le_trans (by decide) h0, Int.lt_of_le_of_lt h (by decide)⟩
theorem i5_gen {ns : List Int} (hl : ns.length ≤ 63) {cells : Int} (hc : 1 ≤ cells ∧ cells ≤ 100) (g : Gm) (hg : g[0]? = some (.im (.scr ns))) :
    mSrc rng1 (mCons (mVa (mCall dMax2 (mCons (mVa (M.ret (.int 1))) (mCons (mVa (mCall dMin2 (mCons (mVa (mCall dLen (mCons (mNm 0) (M.ret [])))) (mCons (mVa (M.ret (.int cells))) (M.ret []))))) (M.ret []))))) (M.ret [])) g = some (.ok (rngD 0 (max 1 (min (ns.length : Int) cells)).toNat) g) := by
  have hlen : dLen [.scr ns] = some (.int ns.length) := rfl
  have h1 : (0 : Int) ≤ max 1 (min (ns.length : Int) cells) ∧ max 1 (min (ns.length : Int) cells) ≤ 100 := by omega
  have hr := rng_small h1.1 h1.2
  unfold mSrc
  simp (config := { decide := false }) only [↓runDef, gOf, slotOf, endMs, ↓seqE, ↓bindE, bindO_ok, bindO_ex, bindO_none, seqO_nx, seqO_rt, seqO_rn, seqO_bk, seqO_ct, seqO_ex, seqO_none, ↓retE, ↓failE, ↓ifE, ↓andE, ↓andK_t, ↓andK_f, ↓orE, ↓orK_t, ↓orK_f, ↓andBE, ↓andBK_t, ↓andBK_f, ↓orBE, ↓orBK_t, ↓orBK_f, ↓chE, ↓chK_t, ↓chK_f, ifO_t, ifO_f, ↓mVa, ↓mFz, ↓mNm, ↓mFrz, ↓mOp2, ↓mOp1, ↓f2E, ↓f1E, ↓fsE, ansO_some, ansO_none, rdAll, Hd.rd, D.flat, ↓mCons, ↓mCall, ↓mTup, ↓mLst, ↓mFrzs, dBool, dadd, dsub, dgt, dMax2, dMin2, ↓mSet, ↓mSetN, ↓mSetIx, mKindN, isKindN, mWr, beq_self_eq_true, Sl.cell, Sl.put, ↓mFrzM, argDs, argD, apartB, putMu, ↓mCallF, ↓mCallN, Hd.isNm, nmu, List.cons_append, List.nil_append, List.length_cons, List.length_nil, List.replicate_succ, List.replicate_zero, List.getElem?_cons_zero, List.getElem?_cons_succ, List.set_cons_zero, List.set_cons_succ, List.any_nil, List.any_cons, Nat.reduceAdd, Nat.reduceSub, Nat.reduceBEq, if_true, if_false, Bool.false_eq_true, ↓reduceIte, Option.bind_some, Option.map_some, Bool.or_self, Bool.false_or, Bool.or_false, Bool.true_or, Bool.or_true, List.contains_nil, List.contains_cons, Bool.and_self, Bool.not_false, Bool.not_true, Bool.true_and, Bool.and_true, Bool.false_and, decide_true, decide_false, hg, hlen, hr]
theorem i3_gen {v : Int} (h0 : 0 ≤ v) (h : v ≤ 100) (g : Gm) : mSrc rng1 (mCons (mVa (M.ret (.int v))) (M.ret [])) g = some (.ok (rngD 0 v.toNat) g) := by
  have := rng_small h0 h
  unfold mSrc
  simp (config := { decide := false }) only [↓runDef, gOf, slotOf, endMs, ↓seqE, ↓bindE, bindO_ok, bindO_ex, bindO_none, seqO_nx, seqO_rt, seqO_rn, seqO_bk, seqO_ct, seqO_ex, seqO_none, ↓retE, ↓failE, ↓ifE, ↓andE, ↓andK_t, ↓andK_f, ↓orE, ↓orK_t, ↓orK_f, ↓andBE, ↓andBK_t, ↓andBK_f, ↓orBE, ↓orBK_t, ↓orBK_f, ↓chE, ↓chK_t, ↓chK_f, ifO_t, ifO_f, ↓mVa, ↓mFz, ↓mNm, ↓mFrz, ↓mOp2, ↓mOp1, ↓f2E, ↓f1E, ↓fsE, ansO_some, ansO_none, rdAll, Hd.rd, D.flat, ↓mCons, ↓mCall, ↓mTup, ↓mLst, ↓mFrzs, dBool, dadd, dsub, dgt, dMax2, dMin2, ↓mSet, ↓mSetN, ↓mSetIx, mKindN, isKindN, mWr, beq_self_eq_true, Sl.cell, Sl.put, ↓mFrzM, argDs, argD, apartB, putMu, ↓mCallF, ↓mCallN, Hd.isNm, nmu, List.cons_append, List.nil_append, List.length_cons, List.length_nil, List.replicate_succ, List.replicate_zero, List.getElem?_cons_zero, List.getElem?_cons_succ, List.set_cons_zero, List.set_cons_succ, List.any_nil, List.any_cons, Nat.reduceAdd, Nat.reduceSub, Nat.reduceBEq, if_true, if_false, Bool.false_eq_true, ↓reduceIte, Option.bind_some, Option.map_some, Bool.or_self, Bool.false_or, Bool.or_false, Bool.true_or, Bool.or_true, List.contains_nil, List.contains_cons, Bool.and_self, Bool.not_false, Bool.not_true, Bool.true_and, Bool.and_true, Bool.false_and, decide_true, decide_false, this]
end Cq.Sp

set_option Elab.async false
set_option linter.all false
set_option maxRecDepth 100000
set_option maxHeartbeats 1000000
namespace Cq.S6
open PySem PyProof.Rows L2 Cq Cq.Sp
theorem draw1 (s : So) (n : Int) (hn : 0 < n) (h2 : n < 1073741824) : ∃ r s', f_x_law_draw [so s, .int n] = some (.ret (.int r) [so s']) ∧ 0 ≤ r ∧ r < n := by
  obtain ⟨a, b, c⟩ := s
  unfold f_x_law_draw m_x_law_draw so
  by_cases ha : 0 < a
  · simp (config := { decide := false }) only [↓runDef, gOf, slotOf, endMs, ↓seqE, ↓bindE, bindO_ok, bindO_ex, bindO_none, seqO_nx, seqO_rt, seqO_rn, seqO_bk, seqO_ct, seqO_ex, seqO_none, ↓retE, ↓failE, ↓ifE, ↓andE, ↓andK_t, ↓andK_f, ↓orE, ↓orK_t, ↓orK_f, ↓andBE, ↓andBK_t, ↓andBK_f, ↓orBE, ↓orBK_t, ↓orBK_f, ↓chE, ↓chK_t, ↓chK_f, ifO_t, ifO_f, ↓mVa, ↓mFz, ↓mNm, ↓mFrz, ↓mOp2, ↓mOp1, ↓f2E, ↓f1E, ↓fsE, ansO_some, ansO_none, rdAll, Hd.rd, D.flat, ↓mCons, ↓mCall, ↓mTup, ↓mLst, ↓mFrzs, dBool, dadd, dsub, dgt, dMax2, dMin2, ↓mSet, ↓mSetN, ↓mSetIx, mKindN, isKindN, mWr, beq_self_eq_true, Sl.cell, Sl.put, ↓mFrzM, argDs, argD, apartB, putMu, ↓mCallF, ↓mCallN, Hd.isNm, nmu, List.cons_append, List.nil_append, List.length_cons, List.length_nil, List.replicate_succ, List.replicate_zero, List.getElem?_cons_zero, List.getElem?_cons_succ, List.set_cons_zero, List.set_cons_succ, List.any_nil, List.any_cons, Nat.reduceAdd, Nat.reduceSub, Nat.reduceBEq, if_true, if_false, Bool.false_eq_true, ↓reduceIte, Option.bind_some, Option.map_some, Bool.or_self, Bool.false_or, Bool.or_false, Bool.true_or, Bool.or_true, List.contains_nil, List.contains_cons, Bool.and_self, Bool.not_false, Bool.not_true, Bool.true_and, Bool.and_true, Bool.false_and, decide_true, decide_false, ha, hn, h2, ix0, ix1, ix2, st0, st1, st2, dmod hn, ddiv hn h2]
    exact ⟨_, ⟨_, _, _⟩, rfl, Int.emod_nonneg _ (by omega), Int.emod_lt_of_pos _ hn⟩
  · have m1 : ∀ i : Int, dMod (.int i) (.int 2147483647) = some (.int (i % 2147483647)) := fun i => dmod (by decide)
    have m2 : ∀ i : Int, dMod (.int i) (.int 2147483629) = some (.int (i % 2147483629)) := fun i => dmod (by decide)
    have m3 : ∀ i : Int, dMod (.int i) (.int 2147483587) = some (.int (i % 2147483587)) := fun i => dmod (by decide)
    have d1 : ∀ i : Int, dDiv (.int i) (.int 16) = some (.int (i / 16)) := fun i => ddiv (by decide) (by decide)
    have u1 : ∀ i : Int, dMul (.int i) (.int 48271) = some (.int (i * 48271)) := fun i => dmulr (by decide)
    have u2 : ∀ i : Int, dMul (.int 1009) (.int i) = some (.int (1009 * i)) := fun i => dmull (by decide)
    have u3 : ∀ i : Int, dMul (.int 69621) (.int i) = some (.int (69621 * i)) := fun i => dmull (by decide)
    have u4 : ∀ i : Int, dMul (.int 40014) (.int i) = some (.int (40014 * i)) := fun i => dmull (by decide)
    have u5 : ∀ i : Int, dMul (.int (i % 2147483647)) (.int (i % 2147483647)) = some (.int ((i % 2147483647) * (i % 2147483647))) := fun i => dmull (by have := Int.emod_nonneg i (show (2147483647 : Int) ≠ 0 by decide); have := Int.emod_lt_of_pos i (show (0 : Int) < 2147483647 by decide); omega)
    have u6 : ∀ i : Int, dMul (.int (i % 2147483629)) (.int (i % 2147483629)) = some (.int ((i % 2147483629) * (i % 2147483629))) := fun i => dmull (by have := Int.emod_nonneg i (show (2147483629 : Int) ≠ 0 by decide); have := Int.emod_lt_of_pos i (show (0 : Int) < 2147483629 by decide); omega)
    simp (config := { decide := false }) only [↓runDef, gOf, slotOf, endMs, ↓seqE, ↓bindE, bindO_ok, bindO_ex, bindO_none, seqO_nx, seqO_rt, seqO_rn, seqO_bk, seqO_ct, seqO_ex, seqO_none, ↓retE, ↓failE, ↓ifE, ↓andE, ↓andK_t, ↓andK_f, ↓orE, ↓orK_t, ↓orK_f, ↓andBE, ↓andBK_t, ↓andBK_f, ↓orBE, ↓orBK_t, ↓orBK_f, ↓chE, ↓chK_t, ↓chK_f, ifO_t, ifO_f, ↓mVa, ↓mFz, ↓mNm, ↓mFrz, ↓mOp2, ↓mOp1, ↓f2E, ↓f1E, ↓fsE, ansO_some, ansO_none, rdAll, Hd.rd, D.flat, ↓mCons, ↓mCall, ↓mTup, ↓mLst, ↓mFrzs, dBool, dadd, dsub, dgt, dMax2, dMin2, ↓mSet, ↓mSetN, ↓mSetIx, mKindN, isKindN, mWr, beq_self_eq_true, Sl.cell, Sl.put, ↓mFrzM, argDs, argD, apartB, putMu, ↓mCallF, ↓mCallN, Hd.isNm, nmu, List.cons_append, List.nil_append, List.length_cons, List.length_nil, List.replicate_succ, List.replicate_zero, List.getElem?_cons_zero, List.getElem?_cons_succ, List.set_cons_zero, List.set_cons_succ, List.any_nil, List.any_cons, Nat.reduceAdd, Nat.reduceSub, Nat.reduceBEq, if_true, if_false, Bool.false_eq_true, ↓reduceIte, Option.bind_some, Option.map_some, Bool.or_self, Bool.false_or, Bool.or_false, Bool.true_or, Bool.or_true, List.contains_nil, List.contains_cons, Bool.and_self, Bool.not_false, Bool.not_true, Bool.true_and, Bool.and_true, Bool.false_and, decide_true, decide_false, ha, hn, h2, ix0, ix1, ix2, st0, st1, st2, m1, m2, m3, d1, u1, u2, u3, u4, u5, u6, dmod hn]
    exact ⟨_, ⟨_, _, _⟩, rfl, Int.emod_nonneg _ (by omega), Int.emod_lt_of_pos _ hn⟩
theorem choose_l {xs : List D} (s : So) (h0 : xs ≠ []) (h1 : xs.length < 1073741824) : ∃ x ∈ xs, ∃ s', f_x_law_choose [so s, .lst xs] = some (.ret x [so s']) := by
  have hp : 0 < xs.length := List.length_pos_iff.mpr h0
  obtain ⟨r, s', e, r0, r1⟩ := draw1 s xs.length (by omega) (by omega)
  have hr : r.toNat < xs.length := by omega
  refine ⟨xs[r.toNat], List.getElem_mem _, s', ?_⟩
  have hx : dIx (.lst xs) (.int r) = some xs[r.toNat] := by
    show atI xs r = _
    rw [atI_l (j := r.toNat) (by omega) hr, List.getElem?_eq_getElem hr]
  unfold f_x_law_choose m_x_law_choose
  simp (config := { decide := false }) only [↓runDef, gOf, slotOf, endMs, ↓seqE, ↓bindE, bindO_ok, bindO_ex, bindO_none, seqO_nx, seqO_rt, seqO_rn, seqO_bk, seqO_ct, seqO_ex, seqO_none, ↓retE, ↓failE, ↓ifE, ↓andE, ↓andK_t, ↓andK_f, ↓orE, ↓orK_t, ↓orK_f, ↓andBE, ↓andBK_t, ↓andBK_f, ↓orBE, ↓orBK_t, ↓orBK_f, ↓chE, ↓chK_t, ↓chK_f, ifO_t, ifO_f, ↓mVa, ↓mFz, ↓mNm, ↓mFrz, ↓mOp2, ↓mOp1, ↓f2E, ↓f1E, ↓fsE, ansO_some, ansO_none, rdAll, Hd.rd, D.flat, ↓mCons, ↓mCall, ↓mTup, ↓mLst, ↓mFrzs, dBool, dadd, dsub, dgt, dMax2, dMin2, ↓mSet, ↓mSetN, ↓mSetIx, mKindN, isKindN, mWr, beq_self_eq_true, Sl.cell, Sl.put, ↓mFrzM, argDs, argD, apartB, putMu, ↓mCallF, ↓mCallN, Hd.isNm, nmu, List.cons_append, List.nil_append, List.length_cons, List.length_nil, List.replicate_succ, List.replicate_zero, List.getElem?_cons_zero, List.getElem?_cons_succ, List.set_cons_zero, List.set_cons_succ, List.any_nil, List.any_cons, Nat.reduceAdd, Nat.reduceSub, Nat.reduceBEq, if_true, if_false, Bool.false_eq_true, ↓reduceIte, Option.bind_some, Option.map_some, Bool.or_self, Bool.false_or, Bool.or_false, Bool.true_or, Bool.or_true, List.contains_nil, List.contains_cons, Bool.and_self, Bool.not_false, Bool.not_true, Bool.true_and, Bool.and_true, Bool.false_and, decide_true, decide_false, dLen, so_flat, e, hx]
theorem choose_t {xs : List D} (s : So) (h0 : xs ≠ []) (h1 : xs.length < 1073741824) : ∃ x ∈ xs, ∃ s', f_x_law_choose [so s, .tup xs] = some (.ret x [so s']) := by
  have hp : 0 < xs.length := List.length_pos_iff.mpr h0
  obtain ⟨r, s', e, r0, r1⟩ := draw1 s xs.length (by omega) (by omega)
  have hr : r.toNat < xs.length := by omega
  refine ⟨xs[r.toNat], List.getElem_mem _, s', ?_⟩
  have hx : dIx (.tup xs) (.int r) = some xs[r.toNat] := by
    show atI xs r = _
    rw [atI_l (j := r.toNat) (by omega) hr, List.getElem?_eq_getElem hr]
  unfold f_x_law_choose m_x_law_choose
  simp (config := { decide := false }) only [↓runDef, gOf, slotOf, endMs, ↓seqE, ↓bindE, bindO_ok, bindO_ex, bindO_none, seqO_nx, seqO_rt, seqO_rn, seqO_bk, seqO_ct, seqO_ex, seqO_none, ↓retE, ↓failE, ↓ifE, ↓andE, ↓andK_t, ↓andK_f, ↓orE, ↓orK_t, ↓orK_f, ↓andBE, ↓andBK_t, ↓andBK_f, ↓orBE, ↓orBK_t, ↓orBK_f, ↓chE, ↓chK_t, ↓chK_f, ifO_t, ifO_f, ↓mVa, ↓mFz, ↓mNm, ↓mFrz, ↓mOp2, ↓mOp1, ↓f2E, ↓f1E, ↓fsE, ansO_some, ansO_none, rdAll, Hd.rd, D.flat, ↓mCons, ↓mCall, ↓mTup, ↓mLst, ↓mFrzs, dBool, dadd, dsub, dgt, dMax2, dMin2, ↓mSet, ↓mSetN, ↓mSetIx, mKindN, isKindN, mWr, beq_self_eq_true, Sl.cell, Sl.put, ↓mFrzM, argDs, argD, apartB, putMu, ↓mCallF, ↓mCallN, Hd.isNm, nmu, List.cons_append, List.nil_append, List.length_cons, List.length_nil, List.replicate_succ, List.replicate_zero, List.getElem?_cons_zero, List.getElem?_cons_succ, List.set_cons_zero, List.set_cons_succ, List.any_nil, List.any_cons, Nat.reduceAdd, Nat.reduceSub, Nat.reduceBEq, if_true, if_false, Bool.false_eq_true, ↓reduceIte, Option.bind_some, Option.map_some, Bool.or_self, Bool.false_or, Bool.or_false, Bool.true_or, Bool.or_true, List.contains_nil, List.contains_cons, Bool.and_self, Bool.not_false, Bool.not_true, Bool.true_and, Bool.and_true, Bool.false_and, decide_true, decide_false, dLen, so_flat, e, hx]
theorem choose_s {z : Str} (s : So) (h0 : z.cps.toList ≠ []) (h1 : z.cps.toList.length < 1000) : ∃ k ∈ z.cps.toList, ∃ s', f_x_law_choose [so s, .str z] = some (.ret (.str ⟨#[k]⟩) [so s']) := by
  have hp : 0 < z.cps.toList.length := List.length_pos_iff.mpr h0
  have hz : z.length = z.cps.toList.length := by simp [Str.length]
  obtain ⟨r, s', e, r0, r1⟩ := draw1 s z.cps.toList.length (by omega) (by omega)
  have hr : r.toNat < z.cps.toList.length := by omega
  refine ⟨z.cps.toList[r.toNat], List.getElem_mem _, s', ?_⟩
  have hx : dIx (.str z) (.int r) = some (.str ⟨#[z.cps.toList[r.toNat]]⟩) := by
    simp only [dIx]
    rw [if_pos (by omega), atI_l (j := r.toNat) (by omega) hr, List.getElem?_eq_getElem hr]
    rfl
  have hl : dLen [.str z] = some (.int z.cps.toList.length) := by
    simp only [dLen]
    rw [if_pos (by omega), hz]
  unfold f_x_law_choose m_x_law_choose
  simp (config := { decide := false }) only [↓runDef, gOf, slotOf, endMs, ↓seqE, ↓bindE, bindO_ok, bindO_ex, bindO_none, seqO_nx, seqO_rt, seqO_rn, seqO_bk, seqO_ct, seqO_ex, seqO_none, ↓retE, ↓failE, ↓ifE, ↓andE, ↓andK_t, ↓andK_f, ↓orE, ↓orK_t, ↓orK_f, ↓andBE, ↓andBK_t, ↓andBK_f, ↓orBE, ↓orBK_t, ↓orBK_f, ↓chE, ↓chK_t, ↓chK_f, ifO_t, ifO_f, ↓mVa, ↓mFz, ↓mNm, ↓mFrz, ↓mOp2, ↓mOp1, ↓f2E, ↓f1E, ↓fsE, ansO_some, ansO_none, rdAll, Hd.rd, D.flat, ↓mCons, ↓mCall, ↓mTup, ↓mLst, ↓mFrzs, dBool, dadd, dsub, dgt, dMax2, dMin2, ↓mSet, ↓mSetN, ↓mSetIx, mKindN, isKindN, mWr, beq_self_eq_true, Sl.cell, Sl.put, ↓mFrzM, argDs, argD, apartB, putMu, ↓mCallF, ↓mCallN, Hd.isNm, nmu, List.cons_append, List.nil_append, List.length_cons, List.length_nil, List.replicate_succ, List.replicate_zero, List.getElem?_cons_zero, List.getElem?_cons_succ, List.set_cons_zero, List.set_cons_succ, List.any_nil, List.any_cons, Nat.reduceAdd, Nat.reduceSub, Nat.reduceBEq, if_true, if_false, Bool.false_eq_true, ↓reduceIte, Option.bind_some, Option.map_some, Bool.or_self, Bool.false_or, Bool.or_false, Bool.true_or, Bool.or_true, List.contains_nil, List.contains_cons, Bool.and_self, Bool.not_false, Bool.not_true, Bool.true_and, Bool.and_true, Bool.false_and, decide_true, decide_false, hl, so_flat, e, hx]
theorem cell_ok (ns : List Int) (i : Int) (h : 0 ≤ i) : ∃ v, f_x_law_cell [.scr ns, .int i] = some (.ret (.int v) []) := by
  have hl : dLen [.scr ns] = some (.int ns.length) := rfl
  by_cases c : i < ns.length
  · have hr : i.toNat < ns.length := by omega
    have hx : dIx (.scr ns) (.int i) = some (.int ns[i.toNat]) := by
      show (atI ns i).map D.int = _
      rw [atI_l (j := i.toNat) (by omega) hr, List.getElem?_eq_getElem hr]
      rfl
    refine ⟨ns[i.toNat], ?_⟩
    unfold f_x_law_cell m_x_law_cell
    simp (config := { decide := false }) only [↓runDef, gOf, slotOf, endMs, ↓seqE, ↓bindE, bindO_ok, bindO_ex, bindO_none, seqO_nx, seqO_rt, seqO_rn, seqO_bk, seqO_ct, seqO_ex, seqO_none, ↓retE, ↓failE, ↓ifE, ↓andE, ↓andK_t, ↓andK_f, ↓orE, ↓orK_t, ↓orK_f, ↓andBE, ↓andBK_t, ↓andBK_f, ↓orBE, ↓orBK_t, ↓orBK_f, ↓chE, ↓chK_t, ↓chK_f, ifO_t, ifO_f, ↓mVa, ↓mFz, ↓mNm, ↓mFrz, ↓mOp2, ↓mOp1, ↓f2E, ↓f1E, ↓fsE, ansO_some, ansO_none, rdAll, Hd.rd, D.flat, ↓mCons, ↓mCall, ↓mTup, ↓mLst, ↓mFrzs, dBool, dadd, dsub, dgt, dMax2, dMin2, ↓mSet, ↓mSetN, ↓mSetIx, mKindN, isKindN, mWr, beq_self_eq_true, Sl.cell, Sl.put, ↓mFrzM, argDs, argD, apartB, putMu, ↓mCallF, ↓mCallN, Hd.isNm, nmu, List.cons_append, List.nil_append, List.length_cons, List.length_nil, List.replicate_succ, List.replicate_zero, List.getElem?_cons_zero, List.getElem?_cons_succ, List.set_cons_zero, List.set_cons_succ, List.any_nil, List.any_cons, Nat.reduceAdd, Nat.reduceSub, Nat.reduceBEq, if_true, if_false, Bool.false_eq_true, ↓reduceIte, Option.bind_some, Option.map_some, Bool.or_self, Bool.false_or, Bool.or_false, Bool.true_or, Bool.or_true, List.contains_nil, List.contains_cons, Bool.and_self, Bool.not_false, Bool.not_true, Bool.true_and, Bool.and_true, Bool.false_and, decide_true, decide_false, hl, c, hx]
  · refine ⟨0, ?_⟩
    unfold f_x_law_cell m_x_law_cell
    simp (config := { decide := false }) only [↓runDef, gOf, slotOf, endMs, ↓seqE, ↓bindE, bindO_ok, bindO_ex, bindO_none, seqO_nx, seqO_rt, seqO_rn, seqO_bk, seqO_ct, seqO_ex, seqO_none, ↓retE, ↓failE, ↓ifE, ↓andE, ↓andK_t, ↓andK_f, ↓orE, ↓orK_t, ↓orK_f, ↓andBE, ↓andBK_t, ↓andBK_f, ↓orBE, ↓orBK_t, ↓orBK_f, ↓chE, ↓chK_t, ↓chK_f, ifO_t, ifO_f, ↓mVa, ↓mFz, ↓mNm, ↓mFrz, ↓mOp2, ↓mOp1, ↓f2E, ↓f1E, ↓fsE, ansO_some, ansO_none, rdAll, Hd.rd, D.flat, ↓mCons, ↓mCall, ↓mTup, ↓mLst, ↓mFrzs, dBool, dadd, dsub, dgt, dMax2, dMin2, ↓mSet, ↓mSetN, ↓mSetIx, mKindN, isKindN, mWr, beq_self_eq_true, Sl.cell, Sl.put, ↓mFrzM, argDs, argD, apartB, putMu, ↓mCallF, ↓mCallN, Hd.isNm, nmu, List.cons_append, List.nil_append, List.length_cons, List.length_nil, List.replicate_succ, List.replicate_zero, List.getElem?_cons_zero, List.getElem?_cons_succ, List.set_cons_zero, List.set_cons_succ, List.any_nil, List.any_cons, Nat.reduceAdd, Nat.reduceSub, Nat.reduceBEq, if_true, if_false, Bool.false_eq_true, ↓reduceIte, Option.bind_some, Option.map_some, Bool.or_self, Bool.false_or, Bool.or_false, Bool.true_or, Bool.or_true, List.contains_nil, List.contains_cons, Bool.and_self, Bool.not_false, Bool.not_true, Bool.true_and, Bool.and_true, Bool.false_and, decide_true, decide_false, hl, c]
theorem source_ok (v : Int) : ∃ s, f_x_law_source [.int v] = some (.new (so s) []) := by
  have hp : dPow (.int 10) (.int 18) = some (.int (10 ^ 18)) := rfl
  have hm : dMod (.int v) (.int 2147483629) = some (.int (v % 2147483629)) := dmod (by decide)
  refine ⟨⟨max 0 (v - 10 ^ 18), v % 2147483629 + 1, 0⟩, ?_⟩
  unfold f_x_law_source m_x_law_source so
  simp (config := { decide := false }) only [↓runDef, gOf, slotOf, endMs, ↓seqE, ↓bindE, bindO_ok, bindO_ex, bindO_none, seqO_nx, seqO_rt, seqO_rn, seqO_bk, seqO_ct, seqO_ex, seqO_none, ↓retE, ↓failE, ↓ifE, ↓andE, ↓andK_t, ↓andK_f, ↓orE, ↓orK_t, ↓orK_f, ↓andBE, ↓andBK_t, ↓andBK_f, ↓orBE, ↓orBK_t, ↓orBK_f, ↓chE, ↓chK_t, ↓chK_f, ifO_t, ifO_f, ↓mVa, ↓mFz, ↓mNm, ↓mFrz, ↓mOp2, ↓mOp1, ↓f2E, ↓f1E, ↓fsE, ansO_some, ansO_none, rdAll, Hd.rd, D.flat, ↓mCons, ↓mCall, ↓mTup, ↓mLst, ↓mFrzs, dBool, dadd, dsub, dgt, dMax2, dMin2, ↓mSet, ↓mSetN, ↓mSetIx, mKindN, isKindN, mWr, beq_self_eq_true, Sl.cell, Sl.put, ↓mFrzM, argDs, argD, apartB, putMu, ↓mCallF, ↓mCallN, Hd.isNm, nmu, List.cons_append, List.nil_append, List.length_cons, List.length_nil, List.replicate_succ, List.replicate_zero, List.getElem?_cons_zero, List.getElem?_cons_succ, List.set_cons_zero, List.set_cons_succ, List.any_nil, List.any_cons, Nat.reduceAdd, Nat.reduceSub, Nat.reduceBEq, if_true, if_false, Bool.false_eq_true, ↓reduceIte, Option.bind_some, Option.map_some, Bool.or_self, Bool.false_or, Bool.or_false, Bool.true_or, Bool.or_true, List.contains_nil, List.contains_cons, Bool.and_self, Bool.not_false, Bool.not_true, Bool.true_and, Bool.and_true, Bool.false_and, decide_true, decide_false, hp, hm, lit3]
theorem equal_n {d : D} {n k : Nat} (h : Shw d n k) (hn : n ≤ 1000000) (hk : k ≤ 60) : f_x_law_is_equal [d, d] = some (.ret (.bl true) []) := by
  obtain ⟨x, e⟩ := repr_ok h hn hk
  have e := reprD_of e
  unfold f_x_law_is_equal m_x_law_is_equal
  simp (config := { decide := false }) only [↓runDef, gOf, slotOf, endMs, ↓seqE, ↓bindE, bindO_ok, bindO_ex, bindO_none, seqO_nx, seqO_rt, seqO_rn, seqO_bk, seqO_ct, seqO_ex, seqO_none, ↓retE, ↓failE, ↓ifE, ↓andE, ↓andK_t, ↓andK_f, ↓orE, ↓orK_t, ↓orK_f, ↓andBE, ↓andBK_t, ↓andBK_f, ↓orBE, ↓orBK_t, ↓orBK_f, ↓chE, ↓chK_t, ↓chK_f, ifO_t, ifO_f, ↓mVa, ↓mFz, ↓mNm, ↓mFrz, ↓mOp2, ↓mOp1, ↓f2E, ↓f1E, ↓fsE, ansO_some, ansO_none, rdAll, Hd.rd, D.flat, ↓mCons, ↓mCall, ↓mTup, ↓mLst, ↓mFrzs, dBool, dadd, dsub, dgt, dMax2, dMin2, ↓mSet, ↓mSetN, ↓mSetIx, mKindN, isKindN, mWr, beq_self_eq_true, Sl.cell, Sl.put, ↓mFrzM, argDs, argD, apartB, putMu, ↓mCallF, ↓mCallN, Hd.isNm, nmu, List.cons_append, List.nil_append, List.length_cons, List.length_nil, List.replicate_succ, List.replicate_zero, List.getElem?_cons_zero, List.getElem?_cons_succ, List.set_cons_zero, List.set_cons_succ, List.any_nil, List.any_cons, Nat.reduceAdd, Nat.reduceSub, Nat.reduceBEq, if_true, if_false, Bool.false_eq_true, ↓reduceIte, Option.bind_some, Option.map_some, Bool.or_self, Bool.false_or, Bool.or_false, Bool.true_or, Bool.or_true, List.contains_nil, List.contains_cons, Bool.and_self, Bool.not_false, Bool.not_true, Bool.true_and, Bool.and_true, Bool.false_and, decide_true, decide_false, e, Sp.eq_self]
end Cq.S6

set_option Elab.async false
set_option linter.all false
set_option maxRecDepth 100000
set_option maxHeartbeats 1000000
namespace Cq.Sp
open PySem PyProof.Rows L2 Cq
structure Bd (s : So) (n : Nat) : Prop where
  b0 : 0 ≤ s.b
  b1 : s.b < 1000000007
  c0 : 0 ≤ s.c
  c1 : s.c ≤ (n : Int)
theorem Bd.mono {s : So} {n m : Nat} (h : Bd s n) (l : n ≤ m) : Bd s m := ⟨h.b0, h.b1, h.c0, by have := h.c1; omega⟩
structure Sm (d : D) : Prop where
  ok : ∃ p, d.py = some p ∧ p.canLay0 = true ∧ p.depth ≤ 3
theorem sm_list : ∀ {xs : List D}, (∀ x ∈ xs, Sm x) → ∃ ps, pyL xs = some ps ∧ PyData.canLayAll0 ps = true ∧ PyData.depthAll ps ≤ 4
  | [], _ => ⟨[], rfl, rfl, by simp [PyData.depthAll]⟩
  | x :: xs, h => by
    obtain ⟨p, e1, e2, e3⟩ := (h x List.mem_cons_self).ok
    obtain ⟨ps, f1, f2, f3⟩ := sm_list fun y hy => h y (List.mem_cons_of_mem _ hy)
    refine ⟨p :: ps, by simp only [pyL, e1, f1], by simp only [PyData.canLayAll0, e2, f2, Bool.and_self], ?_⟩
    simp only [PyData.depthAll]
    omega
theorem append {xs : List D} {d : D} (h : xs.length ≤ 1000) : fAppend (.lst xs) [d] = some (.non, .lst (xs ++ [d])) := by
  simp only [fAppend]
  rw [if_pos (by omega)]
end Cq.Sp

set_option Elab.async false
set_option linter.all false
set_option maxRecDepth 100000
set_option maxHeartbeats 1000000
namespace Cq.Sp
open PySem PyProof.Rows L2 Cq
structure Atm where
  k : Nat
  v : Int
  w : Int
  deriving DecidableEq
def Atm.d (a : Atm) : D := .tup [.str ⟨#[a.k]⟩, .int a.v, .int a.w]
structure Atm.ok (a : Atm) : Prop where
  hk : a.k = 65 ∨ a.k = 66 ∨ a.k = 67
  v0 : 0 ≤ a.v
  v1 : a.v ≤ 9
  w0 : 0 ≤ a.w
  w1 : a.w ≤ 9
theorem kind_n {k : Nat} (h : k = 65 ∨ k = 66 ∨ k = 67) : f_is_kind [.str ⟨#[k]⟩] = some (.ret (.bl true) []) := by
  rcases h with rfl | rfl | rfl <;> rfl
theorem int_n {v : Int} : f_is_integer [.int v] = some (.ret (.bl true) []) := rfl
theorem between_n {v : Int} (h0 : 0 ≤ v) (h1 : v ≤ 9) : f_is_between [.int v, .int 0, .int 9] = some (.ret (.bl true) []) := by
  unfold f_is_between m_is_between
  simp (config := { decide := false }) only [↓runDef, gOf, slotOf, endMs, ↓seqE, ↓bindE, bindO_ok, bindO_ex, bindO_none, seqO_nx, seqO_rt, seqO_rn, seqO_bk, seqO_ct, seqO_ex, seqO_none, ↓retE, ↓failE, ↓ifE, ↓andE, ↓andK_t, ↓andK_f, ↓orE, ↓orK_t, ↓orK_f, ↓andBE, ↓andBK_t, ↓andBK_f, ↓orBE, ↓orBK_t, ↓orBK_f, ↓chE, ↓chK_t, ↓chK_f, ifO_t, ifO_f, ↓mVa, ↓mFz, ↓mNm, ↓mFrz, ↓mOp2, ↓mOp1, ↓f2E, ↓f1E, ↓fsE, ansO_some, ansO_none, rdAll, Hd.rd, D.flat, ↓mCons, ↓mCall, ↓mTup, ↓mLst, ↓mFrzs, dBool, dadd, dsub, dgt, dMax2, dMin2, ↓mSet, ↓mSetN, ↓mSetIx, mKindN, isKindN, mWr, beq_self_eq_true, Sl.cell, Sl.put, ↓mFrzM, argDs, argD, apartB, putMu, ↓mCallF, ↓mCallN, Hd.isNm, nmu, List.cons_append, List.nil_append, List.length_cons, List.length_nil, List.replicate_succ, List.replicate_zero, List.getElem?_cons_zero, List.getElem?_cons_succ, List.set_cons_zero, List.set_cons_succ, List.any_nil, List.any_cons, Nat.reduceAdd, Nat.reduceSub, Nat.reduceBEq, if_true, if_false, Bool.false_eq_true, ↓reduceIte, Option.bind_some, Option.map_some, Bool.or_self, Bool.false_or, Bool.or_false, Bool.true_or, Bool.or_true, List.contains_nil, List.contains_cons, Bool.and_self, Bool.not_false, Bool.not_true, Bool.true_and, Bool.and_true, Bool.false_and, decide_true, decide_false, int_n, h0, h1]
theorem tix0 {a b c : D} : dIx (.tup [a, b, c]) (.int 0) = some a := by simp [dIx, atI, ixN]
theorem tix1 {a b c : D} : dIx (.tup [a, b, c]) (.int 1) = some b := by simp [dIx, atI, ixN]
theorem tix2 {a b c : D} : dIx (.tup [a, b, c]) (.int 2) = some c := by simp [dIx, atI, ixN]
theorem tlen3 {a b c : D} : dLen [.tup [a, b, c]] = some (.int 3) := rfl
theorem n33 : dNe (.int 3) (.int 3) = some (.bl false) := rfl
theorem atom_n {a : Atm} (h : a.ok) : f_is_atom [a.d] = some (.ret (.bl true) []) := by
  unfold f_is_atom m_is_atom Atm.d
  simp (config := { decide := false }) only [↓runDef, gOf, slotOf, endMs, ↓seqE, ↓bindE, bindO_ok, bindO_ex, bindO_none, seqO_nx, seqO_rt, seqO_rn, seqO_bk, seqO_ct, seqO_ex, seqO_none, ↓retE, ↓failE, ↓ifE, ↓andE, ↓andK_t, ↓andK_f, ↓orE, ↓orK_t, ↓orK_f, ↓andBE, ↓andBK_t, ↓andBK_f, ↓orBE, ↓orBK_t, ↓orBK_f, ↓chE, ↓chK_t, ↓chK_f, ifO_t, ifO_f, ↓mVa, ↓mFz, ↓mNm, ↓mFrz, ↓mOp2, ↓mOp1, ↓f2E, ↓f1E, ↓fsE, ansO_some, ansO_none, rdAll, Hd.rd, D.flat, ↓mCons, ↓mCall, ↓mTup, ↓mLst, ↓mFrzs, dBool, dadd, dsub, dgt, dMax2, dMin2, ↓mSet, ↓mSetN, ↓mSetIx, mKindN, isKindN, mWr, beq_self_eq_true, Sl.cell, Sl.put, ↓mFrzM, argDs, argD, apartB, putMu, ↓mCallF, ↓mCallN, Hd.isNm, nmu, List.cons_append, List.nil_append, List.length_cons, List.length_nil, List.replicate_succ, List.replicate_zero, List.getElem?_cons_zero, List.getElem?_cons_succ, List.set_cons_zero, List.set_cons_succ, List.any_nil, List.any_cons, Nat.reduceAdd, Nat.reduceSub, Nat.reduceBEq, if_true, if_false, Bool.false_eq_true, ↓reduceIte, Option.bind_some, Option.map_some, Bool.or_self, Bool.false_or, Bool.or_false, Bool.true_or, Bool.or_true, List.contains_nil, List.contains_cons, Bool.and_self, Bool.not_false, Bool.not_true, Bool.true_and, Bool.and_true, Bool.false_and, decide_true, decide_false, mIsi, dIsi, isTy, tlen3, tix0, tix1, tix2, kind_n h.hk, between_n h.v0 h.v1, between_n h.w0 h.w1, n33]
theorem atoms_n {q : D} {as : List Atm} (hq : Seq q (as.map Atm.d)) (h : ∀ a ∈ as, a.ok) (h1 : 1 ≤ as.length) (h4 : as.length ≤ 4) : f_are_atoms [q] = some (.ret (.bl true) []) := by
  have hc : mLc (some 0) (mItN 0) [1] (tgNm 1) (M.ret true) e_are_atoms_1 [.im q, .un] = some (.ok (.lst (as.map fun _ => .bl true)) [.im q, .un]) := by
    refine lc_map Atm.d (fun _ => .bl true) (itN_im rfl hq.it) rfl (by omega) rfl rfl fun a ha => ⟨_, rfl, ?_, rfl⟩
    unfold e_are_atoms_1
    simp (config := { decide := false }) only [↓runDef, gOf, slotOf, endMs, ↓seqE, ↓bindE, bindO_ok, bindO_ex, bindO_none, seqO_nx, seqO_rt, seqO_rn, seqO_bk, seqO_ct, seqO_ex, seqO_none, ↓retE, ↓failE, ↓ifE, ↓andE, ↓andK_t, ↓andK_f, ↓orE, ↓orK_t, ↓orK_f, ↓andBE, ↓andBK_t, ↓andBK_f, ↓orBE, ↓orBK_t, ↓orBK_f, ↓chE, ↓chK_t, ↓chK_f, ifO_t, ifO_f, ↓mVa, ↓mFz, ↓mNm, ↓mFrz, ↓mOp2, ↓mOp1, ↓f2E, ↓f1E, ↓fsE, ansO_some, ansO_none, rdAll, Hd.rd, D.flat, ↓mCons, ↓mCall, ↓mTup, ↓mLst, ↓mFrzs, dBool, dadd, dsub, dgt, dMax2, dMin2, ↓mSet, ↓mSetN, ↓mSetIx, mKindN, isKindN, mWr, beq_self_eq_true, Sl.cell, Sl.put, ↓mFrzM, argDs, argD, apartB, putMu, ↓mCallF, ↓mCallN, Hd.isNm, nmu, List.cons_append, List.nil_append, List.length_cons, List.length_nil, List.replicate_succ, List.replicate_zero, List.getElem?_cons_zero, List.getElem?_cons_succ, List.set_cons_zero, List.set_cons_succ, List.any_nil, List.any_cons, Nat.reduceAdd, Nat.reduceSub, Nat.reduceBEq, if_true, if_false, Bool.false_eq_true, ↓reduceIte, Option.bind_some, Option.map_some, Bool.or_self, Bool.false_or, Bool.or_false, Bool.true_or, Bool.or_true, List.contains_nil, List.contains_cons, Bool.and_self, Bool.not_false, Bool.not_true, Bool.true_and, Bool.and_true, Bool.false_and, decide_true, decide_false, lendOut, wipeG, atom_n (h a ha)]
  have hl : dLen [q] = some (.int as.length) := by rw [hq.len, List.length_map]
  have c1 : decide ((1 : Int) ≤ as.length) = true := by simp; omega
  have c2 : decide ((as.length : Int) ≤ 4) = true := by simp; omega
  have ha : dAll [.lst (as.map fun _ => D.bl true)] = some (.bl true) := by
    rw [all_map (fun _ : Atm => true)]
    congr 2
    rw [List.all_eq_true]
    exact fun _ _ => rfl
  unfold f_are_atoms m_are_atoms
  simp (config := { decide := false }) only [↓runDef, gOf, slotOf, endMs, ↓seqE, ↓bindE, bindO_ok, bindO_ex, bindO_none, seqO_nx, seqO_rt, seqO_rn, seqO_bk, seqO_ct, seqO_ex, seqO_none, ↓retE, ↓failE, ↓ifE, ↓andE, ↓andK_t, ↓andK_f, ↓orE, ↓orK_t, ↓orK_f, ↓andBE, ↓andBK_t, ↓andBK_f, ↓orBE, ↓orBK_t, ↓orBK_f, ↓chE, ↓chK_t, ↓chK_f, ifO_t, ifO_f, ↓mVa, ↓mFz, ↓mNm, ↓mFrz, ↓mOp2, ↓mOp1, ↓f2E, ↓f1E, ↓fsE, ansO_some, ansO_none, rdAll, Hd.rd, D.flat, ↓mCons, ↓mCall, ↓mTup, ↓mLst, ↓mFrzs, dBool, dadd, dsub, dgt, dMax2, dMin2, ↓mSet, ↓mSetN, ↓mSetIx, mKindN, isKindN, mWr, beq_self_eq_true, Sl.cell, Sl.put, ↓mFrzM, argDs, argD, apartB, putMu, ↓mCallF, ↓mCallN, Hd.isNm, nmu, List.cons_append, List.nil_append, List.length_cons, List.length_nil, List.replicate_succ, List.replicate_zero, List.getElem?_cons_zero, List.getElem?_cons_succ, List.set_cons_zero, List.set_cons_succ, List.any_nil, List.any_cons, Nat.reduceAdd, Nat.reduceSub, Nat.reduceBEq, if_true, if_false, Bool.false_eq_true, ↓reduceIte, Option.bind_some, Option.map_some, Bool.or_self, Bool.false_or, Bool.or_false, Bool.true_or, Bool.or_true, List.contains_nil, List.contains_cons, Bool.and_self, Bool.not_false, Bool.not_true, Bool.true_and, Bool.and_true, Bool.false_and, decide_true, decide_false, hl, c1, c2, hc, ha]
def qd (as : List Atm) : D := .ins 1 [(0, .tup (as.map Atm.d))]
theorem init_n {as : List Atm} (h : ∀ a ∈ as, a.ok) (h1 : 1 ≤ as.length) (h4 : as.length ≤ 4) : f_Question___init [.ins 1 [], .tup (as.map Atm.d)] = some (.ret .non [qd as]) := by
  unfold f_Question___init m_Question___init
  simp (config := { decide := false }) only [↓runDef, gOf, slotOf, endMs, ↓seqE, ↓bindE, bindO_ok, bindO_ex, bindO_none, seqO_nx, seqO_rt, seqO_rn, seqO_bk, seqO_ct, seqO_ex, seqO_none, ↓retE, ↓failE, ↓ifE, ↓andE, ↓andK_t, ↓andK_f, ↓orE, ↓orK_t, ↓orK_f, ↓andBE, ↓andBK_t, ↓andBK_f, ↓orBE, ↓orBK_t, ↓orBK_f, ↓chE, ↓chK_t, ↓chK_f, ifO_t, ifO_f, ↓mVa, ↓mFz, ↓mNm, ↓mFrz, ↓mOp2, ↓mOp1, ↓f2E, ↓f1E, ↓fsE, ansO_some, ansO_none, rdAll, Hd.rd, D.flat, ↓mCons, ↓mCall, ↓mTup, ↓mLst, ↓mFrzs, dBool, dadd, dsub, dgt, dMax2, dMin2, ↓mSet, ↓mSetN, ↓mSetIx, mKindN, isKindN, mWr, beq_self_eq_true, Sl.cell, Sl.put, ↓mFrzM, argDs, argD, apartB, putMu, ↓mCallF, ↓mCallN, Hd.isNm, nmu, List.cons_append, List.nil_append, List.length_cons, List.length_nil, List.replicate_succ, List.replicate_zero, List.getElem?_cons_zero, List.getElem?_cons_succ, List.set_cons_zero, List.set_cons_succ, List.any_nil, List.any_cons, Nat.reduceAdd, Nat.reduceSub, Nat.reduceBEq, if_true, if_false, Bool.false_eq_true, ↓reduceIte, Option.bind_some, Option.map_some, Bool.or_self, Bool.false_or, Bool.or_false, Bool.true_or, Bool.or_true, List.contains_nil, List.contains_cons, Bool.and_self, Bool.not_false, Bool.not_true, Bool.true_and, Bool.and_true, Bool.false_and, decide_true, decide_false, atoms_n (.inr rfl) h h1 h4, mStF]
  rfl
theorem mks_n {q : D} {as : List Atm} {g : Gm} {m : M D} (hq : Seq q (as.map Atm.d)) (h : ∀ a ∈ as, a.ok) (h1 : 1 ≤ as.length) (h4 : as.length ≤ 4) (hm : m g = some (.ok q g)) : mMkS 1 f_Question___init m g = some (.ok (qd as) g) := by
  have : (as.map Atm.d).length ≤ 1000000 := by simp; omega
  unfold mMkS
  rcases hq with rfl | rfl <;> simp only [bindE, hm, bindO_ok, seqL, this, if_true, mMk, init_n h h1 h4]
def Atm.wd (a : Atm) : Str := ⟨#[a.k, 48 + a.v.toNat, 48 + a.w.toNat]⟩
def words (as : List Atm) : Str := Txt.join " " (as.map Atm.wd)
theorem dig {v : Int} (h0 : 0 ≤ v) (h1 : v ≤ 9) : v = 0 ∨ v = 1 ∨ v = 2 ∨ v = 3 ∨ v = 4 ∨ v = 5 ∨ v = 6 ∨ v = 7 ∨ v = 8 ∨ v = 9 := by omega
theorem str_dig {v : Int} (h0 : 0 ≤ v) (h1 : v ≤ 9) : dStr [.int v] = some (.str ⟨#[48 + v.toNat]⟩) := by
  rcases dig h0 h1 with rfl | rfl | rfl | rfl | rfl | rfl | rfl | rfl | rfl | rfl <;> rfl
theorem fmt_dig {v : Int} (h0 : 0 ≤ v) (h1 : v ≤ 9) : dFmt (.int v) = some (.str ⟨#[48 + v.toNat]⟩) := by
  rcases dig h0 h1 with rfl | rfl | rfl | rfl | rfl | rfl | rfl | rfl | rfl | rfl <;> rfl
theorem int_text {v : Int} (h0 : 0 ≤ v) (h1 : v ≤ 9) : PySem.intText? ⟨#[48 + v.toNat]⟩ = some v := by
  rcases dig h0 h1 with rfl | rfl | rfl | rfl | rfl | rfl | rfl | rfl | rfl | rfl <;> decide +kernel
theorem int_dig {v : Int} (h0 : 0 ≤ v) (h1 : v ≤ 9) : dInt [.str ⟨#[48 + v.toNat]⟩] = some (.int v) := by
  simp only [dInt, int_text h0 h1]
  rfl
theorem in_dig {v : Int} (h0 : 0 ≤ v) (h1 : v ≤ 9) : dNotIn (.str ⟨#[48 + v.toNat]⟩) (.str "0123456789") = some (.bl false) := by
  rcases dig h0 h1 with rfl | rfl | rfl | rfl | rfl | rfl | rfl | rfl | rfl | rfl <;> rfl
theorem wd_ix0 {a : Atm} : dIx (.str a.wd) (.int 0) = some (.str ⟨#[a.k]⟩) := rfl
theorem wd_ix1 {a : Atm} : dIx (.str a.wd) (.int 1) = some (.str ⟨#[48 + a.v.toNat]⟩) := rfl
theorem wd_ix2 {a : Atm} : dIx (.str a.wd) (.int 2) = some (.str ⟨#[48 + a.w.toNat]⟩) := rfl
theorem wd_len {a : Atm} : dLen [.str a.wd] = some (.int 3) := rfl
theorem aow_n {a : Atm} (h : a.ok) : f_atom_of_word [.str a.wd] = some (.ret a.d []) := by
  unfold f_atom_of_word m_atom_of_word
  simp (config := { decide := false }) only [↓runDef, gOf, slotOf, endMs, ↓seqE, ↓bindE, bindO_ok, bindO_ex, bindO_none, seqO_nx, seqO_rt, seqO_rn, seqO_bk, seqO_ct, seqO_ex, seqO_none, ↓retE, ↓failE, ↓ifE, ↓andE, ↓andK_t, ↓andK_f, ↓orE, ↓orK_t, ↓orK_f, ↓andBE, ↓andBK_t, ↓andBK_f, ↓orBE, ↓orBK_t, ↓orBK_f, ↓chE, ↓chK_t, ↓chK_f, ifO_t, ifO_f, ↓mVa, ↓mFz, ↓mNm, ↓mFrz, ↓mOp2, ↓mOp1, ↓f2E, ↓f1E, ↓fsE, ansO_some, ansO_none, rdAll, Hd.rd, D.flat, ↓mCons, ↓mCall, ↓mTup, ↓mLst, ↓mFrzs, dBool, dadd, dsub, dgt, dMax2, dMin2, ↓mSet, ↓mSetN, ↓mSetIx, mKindN, isKindN, mWr, beq_self_eq_true, Sl.cell, Sl.put, ↓mFrzM, argDs, argD, apartB, putMu, ↓mCallF, ↓mCallN, Hd.isNm, nmu, List.cons_append, List.nil_append, List.length_cons, List.length_nil, List.replicate_succ, List.replicate_zero, List.getElem?_cons_zero, List.getElem?_cons_succ, List.set_cons_zero, List.set_cons_succ, List.any_nil, List.any_cons, Nat.reduceAdd, Nat.reduceSub, Nat.reduceBEq, if_true, if_false, Bool.false_eq_true, ↓reduceIte, Option.bind_some, Option.map_some, Bool.or_self, Bool.false_or, Bool.or_false, Bool.true_or, Bool.or_true, List.contains_nil, List.contains_cons, Bool.and_self, Bool.not_false, Bool.not_true, Bool.true_and, Bool.and_true, Bool.false_and, decide_true, decide_false, wd_len, wd_ix0, wd_ix1, wd_ix2, n33, in_dig h.v0 h.v1, in_dig h.w0 h.w1, int_dig h.v0 h.v1, int_dig h.w0 h.w1, lit3]
  rfl
theorem sadd {x y z : Str} (h : x.length + y.length ≤ 1000000) (e : x ++ y = z) : dAdd (.str x) (.str y) = some (.str z) := by
  subst e
  exact if_pos h
theorem sum_wd : ∀ as : List Atm, ((as.map Atm.wd).map (·.length)).sum = 3 * as.length
  | [] => rfl
  | a :: as => by simp only [List.map_cons, List.sum_cons, sum_wd as, List.length_cons, show a.wd.length = 3 from rfl]; omega
theorem join_n {as : List Atm} (h4 : as.length ≤ 100) : fJoin (.str " ") [.lst (as.map fun a => D.str a.wd)] = some (.str (words as)) := by
  have e : (as.map fun a => D.str a.wd) = (as.map Atm.wd).map D.str := by rw [List.map_map]; rfl
  rw [e]
  simp only [fJoin, strs_of]
  rw [if_pos]
  · rfl
  · rw [sum_wd, List.length_map, show (" " : Str).length = 1 from rfl]
    omega
theorem qtext_n {as : List Atm} (h : ∀ a ∈ as, a.ok) (hl : as.length ≤ 100) : f_Question_text [qd as] = some (.ret (.str (words as)) []) := by
  have hf : mFld [1] 0 (.nm 0) [.im (qd as), .un, .un, .un] = some (.ok (.tup (as.map Atm.d)) [.im (qd as), .un, .un, .un]) := rfl
  have hi : i_Question_text_1 [.im (qd as), .un, .un, .un] = some (.ok (as.map Atm.d) [.im (qd as), .un, .un, .un]) := by
    unfold i_Question_text_1 mIt
    simp (config := { decide := false }) only [↓runDef, gOf, slotOf, endMs, ↓seqE, ↓bindE, bindO_ok, bindO_ex, bindO_none, seqO_nx, seqO_rt, seqO_rn, seqO_bk, seqO_ct, seqO_ex, seqO_none, ↓retE, ↓failE, ↓ifE, ↓andE, ↓andK_t, ↓andK_f, ↓orE, ↓orK_t, ↓orK_f, ↓andBE, ↓andBK_t, ↓andBK_f, ↓orBE, ↓orBK_t, ↓orBK_f, ↓chE, ↓chK_t, ↓chK_f, ifO_t, ifO_f, ↓mVa, ↓mFz, ↓mNm, ↓mFrz, ↓mOp2, ↓mOp1, ↓f2E, ↓f1E, ↓fsE, ansO_some, ansO_none, rdAll, Hd.rd, D.flat, ↓mCons, ↓mCall, ↓mTup, ↓mLst, ↓mFrzs, dBool, dadd, dsub, dgt, dMax2, dMin2, ↓mSet, ↓mSetN, ↓mSetIx, mKindN, isKindN, mWr, beq_self_eq_true, Sl.cell, Sl.put, ↓mFrzM, argDs, argD, apartB, putMu, ↓mCallF, ↓mCallN, Hd.isNm, nmu, List.cons_append, List.nil_append, List.length_cons, List.length_nil, List.replicate_succ, List.replicate_zero, List.getElem?_cons_zero, List.getElem?_cons_succ, List.set_cons_zero, List.set_cons_succ, List.any_nil, List.any_cons, Nat.reduceAdd, Nat.reduceSub, Nat.reduceBEq, if_true, if_false, Bool.false_eq_true, ↓reduceIte, Option.bind_some, Option.map_some, Bool.or_self, Bool.false_or, Bool.or_false, Bool.true_or, Bool.or_true, List.contains_nil, List.contains_cons, Bool.and_self, Bool.not_false, Bool.not_true, Bool.true_and, Bool.and_true, Bool.false_and, decide_true, decide_false, hf, itD]
  have hc : mLc none i_Question_text_1 [1, 2, 3] (tgTup 3 (tgCons (tgNm 1) (tgCons (tgNm 2) (tgCons (tgNm 3) tgNil)))) (M.ret true) e_Question_text_2 [.im (qd as), .un, .un, .un] = some (.ok (.lst (as.map fun a => D.str a.wd)) [.im (qd as), .un, .un, .un]) := by
    refine lc_map Atm.d (fun a => .str a.wd) hi rfl (by omega) rfl rfl fun a ha => ⟨[.im (qd as), .im (.str ⟨#[a.k]⟩), .im (.int a.v), .im (.int a.w)], rfl, ?_, rfl⟩
    have ok := h a ha
    have f0 : dFmt (.str ⟨#[a.k]⟩) = some (.str ⟨#[a.k]⟩) := rfl
    have f1 := fmt_dig ok.v0 ok.v1
    have f2 := fmt_dig ok.w0 ok.w1
    unfold e_Question_text_2
    rw [mJ_cons (y := ⟨#[a.k]⟩) (by simp (config := { decide := false }) only [↓runDef, gOf, slotOf, endMs, ↓seqE, ↓bindE, bindO_ok, bindO_ex, bindO_none, seqO_nx, seqO_rt, seqO_rn, seqO_bk, seqO_ct, seqO_ex, seqO_none, ↓retE, ↓failE, ↓ifE, ↓andE, ↓andK_t, ↓andK_f, ↓orE, ↓orK_t, ↓orK_f, ↓andBE, ↓andBK_t, ↓andBK_f, ↓orBE, ↓orBK_t, ↓orBK_f, ↓chE, ↓chK_t, ↓chK_f, ifO_t, ifO_f, ↓mVa, ↓mFz, ↓mNm, ↓mFrz, ↓mOp2, ↓mOp1, ↓f2E, ↓f1E, ↓fsE, ansO_some, ansO_none, rdAll, Hd.rd, D.flat, ↓mCons, ↓mCall, ↓mTup, ↓mLst, ↓mFrzs, dBool, dadd, dsub, dgt, dMax2, dMin2, ↓mSet, ↓mSetN, ↓mSetIx, mKindN, isKindN, mWr, beq_self_eq_true, Sl.cell, Sl.put, ↓mFrzM, argDs, argD, apartB, putMu, ↓mCallF, ↓mCallN, Hd.isNm, nmu, List.cons_append, List.nil_append, List.length_cons, List.length_nil, List.replicate_succ, List.replicate_zero, List.getElem?_cons_zero, List.getElem?_cons_succ, List.set_cons_zero, List.set_cons_succ, List.any_nil, List.any_cons, Nat.reduceAdd, Nat.reduceSub, Nat.reduceBEq, if_true, if_false, Bool.false_eq_true, ↓reduceIte, Option.bind_some, Option.map_some, Bool.or_self, Bool.false_or, Bool.or_false, Bool.true_or, Bool.or_true, List.contains_nil, List.contains_cons, Bool.and_self, Bool.not_false, Bool.not_true, Bool.true_and, Bool.and_true, Bool.false_and, decide_true, decide_false, f0]) (by show 0 + 1 ≤ 1000000; decide), mJ_cons (y := ⟨#[48 + a.v.toNat]⟩) (by simp (config := { decide := false }) only [↓runDef, gOf, slotOf, endMs, ↓seqE, ↓bindE, bindO_ok, bindO_ex, bindO_none, seqO_nx, seqO_rt, seqO_rn, seqO_bk, seqO_ct, seqO_ex, seqO_none, ↓retE, ↓failE, ↓ifE, ↓andE, ↓andK_t, ↓andK_f, ↓orE, ↓orK_t, ↓orK_f, ↓andBE, ↓andBK_t, ↓andBK_f, ↓orBE, ↓orBK_t, ↓orBK_f, ↓chE, ↓chK_t, ↓chK_f, ifO_t, ifO_f, ↓mVa, ↓mFz, ↓mNm, ↓mFrz, ↓mOp2, ↓mOp1, ↓f2E, ↓f1E, ↓fsE, ansO_some, ansO_none, rdAll, Hd.rd, D.flat, ↓mCons, ↓mCall, ↓mTup, ↓mLst, ↓mFrzs, dBool, dadd, dsub, dgt, dMax2, dMin2, ↓mSet, ↓mSetN, ↓mSetIx, mKindN, isKindN, mWr, beq_self_eq_true, Sl.cell, Sl.put, ↓mFrzM, argDs, argD, apartB, putMu, ↓mCallF, ↓mCallN, Hd.isNm, nmu, List.cons_append, List.nil_append, List.length_cons, List.length_nil, List.replicate_succ, List.replicate_zero, List.getElem?_cons_zero, List.getElem?_cons_succ, List.set_cons_zero, List.set_cons_succ, List.any_nil, List.any_cons, Nat.reduceAdd, Nat.reduceSub, Nat.reduceBEq, if_true, if_false, Bool.false_eq_true, ↓reduceIte, Option.bind_some, Option.map_some, Bool.or_self, Bool.false_or, Bool.or_false, Bool.true_or, Bool.or_true, List.contains_nil, List.contains_cons, Bool.and_self, Bool.not_false, Bool.not_true, Bool.true_and, Bool.and_true, Bool.false_and, decide_true, decide_false, f1]) (by show 1 + 1 ≤ 1000000; decide), mJ_cons (y := ⟨#[48 + a.w.toNat]⟩) (by simp (config := { decide := false }) only [↓runDef, gOf, slotOf, endMs, ↓seqE, ↓bindE, bindO_ok, bindO_ex, bindO_none, seqO_nx, seqO_rt, seqO_rn, seqO_bk, seqO_ct, seqO_ex, seqO_none, ↓retE, ↓failE, ↓ifE, ↓andE, ↓andK_t, ↓andK_f, ↓orE, ↓orK_t, ↓orK_f, ↓andBE, ↓andBK_t, ↓andBK_f, ↓orBE, ↓orBK_t, ↓orBK_f, ↓chE, ↓chK_t, ↓chK_f, ifO_t, ifO_f, ↓mVa, ↓mFz, ↓mNm, ↓mFrz, ↓mOp2, ↓mOp1, ↓f2E, ↓f1E, ↓fsE, ansO_some, ansO_none, rdAll, Hd.rd, D.flat, ↓mCons, ↓mCall, ↓mTup, ↓mLst, ↓mFrzs, dBool, dadd, dsub, dgt, dMax2, dMin2, ↓mSet, ↓mSetN, ↓mSetIx, mKindN, isKindN, mWr, beq_self_eq_true, Sl.cell, Sl.put, ↓mFrzM, argDs, argD, apartB, putMu, ↓mCallF, ↓mCallN, Hd.isNm, nmu, List.cons_append, List.nil_append, List.length_cons, List.length_nil, List.replicate_succ, List.replicate_zero, List.getElem?_cons_zero, List.getElem?_cons_succ, List.set_cons_zero, List.set_cons_succ, List.any_nil, List.any_cons, Nat.reduceAdd, Nat.reduceSub, Nat.reduceBEq, if_true, if_false, Bool.false_eq_true, ↓reduceIte, Option.bind_some, Option.map_some, Bool.or_self, Bool.false_or, Bool.or_false, Bool.true_or, Bool.or_true, List.contains_nil, List.contains_cons, Bool.and_self, Bool.not_false, Bool.not_true, Bool.true_and, Bool.and_true, Bool.false_and, decide_true, decide_false, f2]) (by show 2 + 1 ≤ 1000000; decide), mJ_nil]
    rfl
  unfold f_Question_text m_Question_text
  simp (config := { decide := false }) only [↓runDef, gOf, slotOf, endMs, ↓seqE, ↓bindE, bindO_ok, bindO_ex, bindO_none, seqO_nx, seqO_rt, seqO_rn, seqO_bk, seqO_ct, seqO_ex, seqO_none, ↓retE, ↓failE, ↓ifE, ↓andE, ↓andK_t, ↓andK_f, ↓orE, ↓orK_t, ↓orK_f, ↓andBE, ↓andBK_t, ↓andBK_f, ↓orBE, ↓orBK_t, ↓orBK_f, ↓chE, ↓chK_t, ↓chK_f, ifO_t, ifO_f, ↓mVa, ↓mFz, ↓mNm, ↓mFrz, ↓mOp2, ↓mOp1, ↓f2E, ↓f1E, ↓fsE, ansO_some, ansO_none, rdAll, Hd.rd, D.flat, ↓mCons, ↓mCall, ↓mTup, ↓mLst, ↓mFrzs, dBool, dadd, dsub, dgt, dMax2, dMin2, ↓mSet, ↓mSetN, ↓mSetIx, mKindN, isKindN, mWr, beq_self_eq_true, Sl.cell, Sl.put, ↓mFrzM, argDs, argD, apartB, putMu, ↓mCallF, ↓mCallN, Hd.isNm, nmu, List.cons_append, List.nil_append, List.length_cons, List.length_nil, List.replicate_succ, List.replicate_zero, List.getElem?_cons_zero, List.getElem?_cons_succ, List.set_cons_zero, List.set_cons_succ, List.any_nil, List.any_cons, Nat.reduceAdd, Nat.reduceSub, Nat.reduceBEq, if_true, if_false, Bool.false_eq_true, ↓reduceIte, Option.bind_some, Option.map_some, Bool.or_self, Bool.false_or, Bool.or_false, Bool.true_or, Bool.or_true, List.contains_nil, List.contains_cons, Bool.and_self, Bool.not_false, Bool.not_true, Bool.true_and, Bool.and_true, Bool.false_and, decide_true, decide_false, mMtK, mKind, isKind, hc, join_n hl]
theorem wd_tl {a : Atm} (h : a.ok) : (32 : Nat) ∉ TL.tl a.wd := by
  show (32 : Nat) ∉ [a.k, 48 + a.v.toNat, 48 + a.w.toNat]
  intro m
  have hk := h.hk
  simp only [List.mem_cons, List.not_mem_nil, or_false] at m
  omega
theorem words_len {as : List Atm} (h4 : as.length ≤ 4) : (words as).length ≤ 100 := by
  unfold words
  rw [TL.join_eq]
  refine Nat.le_trans (StrLaws.join_length_le " " _) ?_
  rw [sum_wd, List.length_map, show (" " : Str).length = 1 from rfl]
  omega
theorem split_n {as : List Atm} (h : ∀ a ∈ as, a.ok) (h1 : 1 ≤ as.length) (h4 : as.length ≤ 4) : fSplit (.str (words as)) [.str " "] = some (.lst (as.map fun a => D.str a.wd)) := by
  have e : Txt.split (words as) " " = as.map Atm.wd := by
    refine TL.split_join (y := " ") (s := 32) (S := []) rfl (by decide +kernel) (fun z => ?_) fun p hp => ?_
    · have := congrArg List.length z
      simp at this
      rw [this] at h1; simp at h1
    · obtain ⟨a, ha, rfl⟩ := List.mem_map.mp hp
      exact wd_tl (h a ha)
  have l := words_len h4
  have e2 : (as.map fun a => D.str a.wd) = (as.map Atm.wd).map D.str := by rw [List.map_map]; rfl
  simp only [fSplit]
  rw [if_pos ⟨by decide, by omega⟩, e, e2]
theorem read_n {as : List Atm} (h : ∀ a ∈ as, a.ok) (h1 : 1 ≤ as.length) (h4 : as.length ≤ 4) : f_Question_read [.glo 1, .str (words as)] = some (.ret (qd as) []) := by
  have hi : i_Question_read_1 [.im (.glo 1), .im (.str (words as)), .un, .un] = some (.ok (as.map fun a => D.str a.wd) [.im (.glo 1), .im (.str (words as)), .un, .un]) := by
    unfold i_Question_read_1 mIt
    simp (config := { decide := false }) only [↓runDef, gOf, slotOf, endMs, ↓seqE, ↓bindE, bindO_ok, bindO_ex, bindO_none, seqO_nx, seqO_rt, seqO_rn, seqO_bk, seqO_ct, seqO_ex, seqO_none, ↓retE, ↓failE, ↓ifE, ↓andE, ↓andK_t, ↓andK_f, ↓orE, ↓orK_t, ↓orK_f, ↓andBE, ↓andBK_t, ↓andBK_f, ↓orBE, ↓orBK_t, ↓orBK_f, ↓chE, ↓chK_t, ↓chK_f, ifO_t, ifO_f, ↓mVa, ↓mFz, ↓mNm, ↓mFrz, ↓mOp2, ↓mOp1, ↓f2E, ↓f1E, ↓fsE, ansO_some, ansO_none, rdAll, Hd.rd, D.flat, ↓mCons, ↓mCall, ↓mTup, ↓mLst, ↓mFrzs, dBool, dadd, dsub, dgt, dMax2, dMin2, ↓mSet, ↓mSetN, ↓mSetIx, mKindN, isKindN, mWr, beq_self_eq_true, Sl.cell, Sl.put, ↓mFrzM, argDs, argD, apartB, putMu, ↓mCallF, ↓mCallN, Hd.isNm, nmu, List.cons_append, List.nil_append, List.length_cons, List.length_nil, List.replicate_succ, List.replicate_zero, List.getElem?_cons_zero, List.getElem?_cons_succ, List.set_cons_zero, List.set_cons_succ, List.any_nil, List.any_cons, Nat.reduceAdd, Nat.reduceSub, Nat.reduceBEq, if_true, if_false, Bool.false_eq_true, ↓reduceIte, Option.bind_some, Option.map_some, Bool.or_self, Bool.false_or, Bool.or_false, Bool.true_or, Bool.or_true, List.contains_nil, List.contains_cons, Bool.and_self, Bool.not_false, Bool.not_true, Bool.true_and, Bool.and_true, Bool.false_and, decide_true, decide_false, mMtK, mKind, isKind, split_n h h1 h4, itD]
  have hc : mLc none i_Question_read_1 [3] (tgNm 3) (M.ret true) e_Question_read_2 [.im (.glo 1), .im (.str (words as)), .un, .un] = some (.ok (.lst (as.map Atm.d)) [.im (.glo 1), .im (.str (words as)), .un, .un]) := by
    refine lc_map (fun a : Atm => D.str a.wd) Atm.d hi rfl (by omega) rfl rfl fun a ha => ⟨_, rfl, ?_, rfl⟩
    unfold e_Question_read_2
    simp (config := { decide := false }) only [↓runDef, gOf, slotOf, endMs, ↓seqE, ↓bindE, bindO_ok, bindO_ex, bindO_none, seqO_nx, seqO_rt, seqO_rn, seqO_bk, seqO_ct, seqO_ex, seqO_none, ↓retE, ↓failE, ↓ifE, ↓andE, ↓andK_t, ↓andK_f, ↓orE, ↓orK_t, ↓orK_f, ↓andBE, ↓andBK_t, ↓andBK_f, ↓orBE, ↓orBK_t, ↓orBK_f, ↓chE, ↓chK_t, ↓chK_f, ifO_t, ifO_f, ↓mVa, ↓mFz, ↓mNm, ↓mFrz, ↓mOp2, ↓mOp1, ↓f2E, ↓f1E, ↓fsE, ansO_some, ansO_none, rdAll, Hd.rd, D.flat, ↓mCons, ↓mCall, ↓mTup, ↓mLst, ↓mFrzs, dBool, dadd, dsub, dgt, dMax2, dMin2, ↓mSet, ↓mSetN, ↓mSetIx, mKindN, isKindN, mWr, beq_self_eq_true, Sl.cell, Sl.put, ↓mFrzM, argDs, argD, apartB, putMu, ↓mCallF, ↓mCallN, Hd.isNm, nmu, List.cons_append, List.nil_append, List.length_cons, List.length_nil, List.replicate_succ, List.replicate_zero, List.getElem?_cons_zero, List.getElem?_cons_succ, List.set_cons_zero, List.set_cons_succ, List.any_nil, List.any_cons, Nat.reduceAdd, Nat.reduceSub, Nat.reduceBEq, if_true, if_false, Bool.false_eq_true, ↓reduceIte, Option.bind_some, Option.map_some, Bool.or_self, Bool.false_or, Bool.or_false, Bool.true_or, Bool.or_true, List.contains_nil, List.contains_cons, Bool.and_self, Bool.not_false, Bool.not_true, Bool.true_and, Bool.and_true, Bool.false_and, decide_true, decide_false, lendOut, wipeG, aow_n (h a ha)]
  have hm : mMkS 1 f_Question___init ((mNm 2).bind mFrz) [.im (.glo 1), .im (.str (words as)), .im (.lst (as.map Atm.d)), .un] = some (.ok (qd as) [.im (.glo 1), .im (.str (words as)), .im (.lst (as.map Atm.d)), .un]) := mks_n (.inl rfl) h h1 h4 rfl
  unfold f_Question_read m_Question_read
  simp (config := { decide := false }) only [↓runDef, gOf, slotOf, endMs, ↓seqE, ↓bindE, bindO_ok, bindO_ex, bindO_none, seqO_nx, seqO_rt, seqO_rn, seqO_bk, seqO_ct, seqO_ex, seqO_none, ↓retE, ↓failE, ↓ifE, ↓andE, ↓andK_t, ↓andK_f, ↓orE, ↓orK_t, ↓orK_f, ↓andBE, ↓andBK_t, ↓andBK_f, ↓orBE, ↓orBK_t, ↓orBK_f, ↓chE, ↓chK_t, ↓chK_f, ifO_t, ifO_f, ↓mVa, ↓mFz, ↓mNm, ↓mFrz, ↓mOp2, ↓mOp1, ↓f2E, ↓f1E, ↓fsE, ansO_some, ansO_none, rdAll, Hd.rd, D.flat, ↓mCons, ↓mCall, ↓mTup, ↓mLst, ↓mFrzs, dBool, dadd, dsub, dgt, dMax2, dMin2, ↓mSet, ↓mSetN, ↓mSetIx, mKindN, isKindN, mWr, beq_self_eq_true, Sl.cell, Sl.put, ↓mFrzM, argDs, argD, apartB, putMu, ↓mCallF, ↓mCallN, Hd.isNm, nmu, List.cons_append, List.nil_append, List.length_cons, List.length_nil, List.replicate_succ, List.replicate_zero, List.getElem?_cons_zero, List.getElem?_cons_succ, List.set_cons_zero, List.set_cons_succ, List.any_nil, List.any_cons, Nat.reduceAdd, Nat.reduceSub, Nat.reduceBEq, if_true, if_false, Bool.false_eq_true, ↓reduceIte, Option.bind_some, Option.map_some, Bool.or_self, Bool.false_or, Bool.or_false, Bool.true_or, Bool.or_true, List.contains_nil, List.contains_cons, Bool.and_self, Bool.not_false, Bool.not_true, Bool.true_and, Bool.and_true, Bool.false_and, decide_true, decide_false, mIsi, dIsi, isTy, hc, atoms_n (.inl rfl) h h1 h4, mGlo, hm]
theorem joinS_asc {y : Str} (hy : ∀ c ∈ TL.tl y, c < 128) : ∀ ws : List Str, (∀ x ∈ ws, ∀ c ∈ TL.tl x, c < 128) → ∀ c ∈ TL.tl (Str.join y ws), c < 128
  | [], _, c, hc => by cases hc
  | [x], h, c, hc => h x List.mem_cons_self c hc
  | x :: z :: r, h, c, hc => by
    have e : Str.join y (x :: z :: r) = x ++ y ++ Str.join y (z :: r) := rfl
    rw [e, TL.tl_append, TL.tl_append, List.mem_append, List.mem_append] at hc
    rcases hc with (hc | hc) | hc
    · exact h x List.mem_cons_self c hc
    · exact hy c hc
    · exact joinS_asc hy (z :: r) (fun z hz => h z (List.mem_cons_of_mem _ hz)) c hc
end Cq.Sp

set_option Elab.async false
set_option linter.all false
set_option maxRecDepth 100000
set_option maxHeartbeats 1000000
namespace Cq.Sp
open PySem PyProof.Rows L2 Cq
theorem perm_map_inv {α β : Type} {f : α → β} : ∀ {zs : List β} {l : List α}, zs.Perm (l.map f) → ∃ l' : List α, l'.Perm l ∧ zs = l'.map f
  | [], l, h => by
    have := h.length_eq
    cases l with
    | nil => exact ⟨[], .nil, rfl⟩
    | cons _ _ => simp at this
  | z :: zs, l, h => by
    obtain ⟨a, ha, rfl⟩ := List.mem_map.mp (h.subset List.mem_cons_self)
    obtain ⟨s, t, rfl⟩ := List.append_of_mem ha
    have p : ((s ++ a :: t).map f).Perm (f a :: (s ++ t).map f) := (List.perm_middle (a := a) (l₁ := s) (l₂ := t)).map f
    obtain ⟨l', p', rfl⟩ := perm_map_inv ((h.trans p).cons_inv)
    exact ⟨a :: l', (p'.cons a).trans List.perm_middle.symm, rfl⟩
theorem eq_i {i j : Int} : dEq (.int i) (.int j) = some (.bl (decide (i = j))) := by
  show dEqP (.int i) (.int j) = _
  simp only [dEqP, D.py]
  rw [if_pos ⟨rfl, rfl⟩]
  rfl
theorem sm_at {a : Atm} (h : a.ok) : Sm a.d := by
  refine ⟨.tuple [.str ⟨#[a.k]⟩, .int a.v, .int a.w], rfl, ?_, by simp [PyData.depth, PyData.depthAll]⟩
  show (PyData.canLay0 (.str ⟨#[a.k]⟩) && true) = true
  rcases h.hk with e | e | e <;> rw [e] <;> decide +kernel
end Cq.Sp

set_option Elab.async false
set_option linter.all false
set_option maxRecDepth 100000
set_option maxHeartbeats 1000000
namespace Cq.Sp
open PySem PyProof.Rows L2 Cq
def vals (as : List Atm) : List Int := as.map (·.v) ++ as.map (·.w)
theorem py_ints : ∀ kn : List Int, pyL (kn.map .int) = some (kn.map .int)
  | [] => rfl
  | k :: kn => by simp only [List.map_cons, pyL, D.py, py_ints kn]
theorem lay_ints : ∀ kn : List Int, PyData.canLayAll0 (kn.map .int) = true
  | [] => rfl
  | k :: kn => by simp only [List.map_cons, PyData.canLayAll0, PyData.canLay0, lay_ints kn, Bool.and_self]
theorem dep_ints : ∀ kn : List Int, PyData.depthAll (kn.map .int) = 0
  | [] => rfl
  | k :: kn => by simp only [List.map_cons, PyData.depthAll, PyData.depth, dep_ints kn, Nat.max_self]
theorem shp_ints (kn : List Int) : SeqAt.shaped (.list (kn.map .int)) = true := by
  simp only [SeqAt.shaped, PyData.canLay0, lay_ints, PyData.depth, dep_ints]
  rfl
def ix (v : Int) : List Int → Nat
  | [] => 0
  | k :: kn => if k = v then 0 else ix v kn + 1
theorem ix_lt {v : Int} : ∀ {kn : List Int}, v ∈ kn → ix v kn < kn.length
  | [], h => nomatch h
  | k :: kn, h => by
    unfold ix
    by_cases c : k = v
    · rw [if_pos c]; exact Nat.succ_pos _
    · rw [if_neg c]
      have := ix_lt (v := v) (kn := kn) ((List.mem_cons.mp h).resolve_left fun e => c e.symm)
      simp only [List.length_cons]; omega
theorem ix_app {v : Int} (l : List Int) : ∀ {kn : List Int}, v ∈ kn → ix v (kn ++ l) = ix v kn
  | [], h => nomatch h
  | k :: kn, h => by
    rw [List.cons_append]
    unfold ix
    by_cases c : k = v
    · rw [if_pos c, if_pos c]
    · rw [if_neg c, if_neg c, ix_app l ((List.mem_cons.mp h).resolve_left fun e => c e.symm)]
theorem insD_len {k : Int} : ∀ l : List Int, (insD k l).length ≤ l.length + 1
  | [] => Nat.le_refl _
  | j :: l => by
    have := insD_len (k := k) l
    unfold insD
    repeat' split
    all_goals simp only [List.length_cons]
    all_goals omega
theorem sdL_len : ∀ l : List Int, (sdL l).length ≤ l.length
  | [] => Nat.le_refl _
  | j :: l => by
    have := sdL_len l
    have := insD_len (k := j) (sdL l)
    show (insD j (sdL l)).length ≤ l.length + 1
    omega
end Cq.Sp

set_option Elab.async false
set_option linter.all false
set_option maxRecDepth 100000
set_option maxHeartbeats 1000000
namespace Cq.Sp
open PySem PyProof.Rows L2 Cq
def adl (l : List Atm) : D := .lst (l.map Atm.d)
theorem cut_lo {ds : List D} {m : Int} {i : Nat} (hm : m = (i : Int)) (h : i ≤ ds.length) : dSl (.lst ds) none (some m) = some (.lst (ds.take i)) := by
  subst hm
  have e0 : HT.sIx ds.length 0 none = 0 := rfl
  have e1 : HT.sIx ds.length ds.length (some (i : Int)) = i := by
    unfold HT.sIx
    show (if ((i : Int) < 0) then _ else _) = i
    rw [if_neg (by omega)]
    simp
    omega
  simp only [dSl, cutD, e0, e1, List.drop_zero, Nat.sub_zero]
theorem cut_hi {ds : List D} {m : Int} {i : Nat} (hm : m = (i : Int)) (h : i ≤ ds.length) : dSl (.lst ds) (some m) none = some (.lst (ds.drop i)) := by
  subst hm
  have e0 : HT.sIx ds.length ds.length none = ds.length := rfl
  have e1 : HT.sIx ds.length 0 (some (i : Int)) = i := by
    unfold HT.sIx
    show (if ((i : Int) < 0) then _ else _) = i
    rw [if_neg (by omega)]
    simp
    omega
  simp only [dSl, cutD, e0, e1]
  congr 2
  exact List.take_of_length_le (by simp)
theorem lst_app {a b : List D} (h : a.length + b.length ≤ 1000000) : dAdd (.lst a) (.lst b) = some (.lst (a ++ b)) := by
  simp only [dAdd]
  rw [if_pos h]
theorem extend {a b : List D} (h : a.length + b.length ≤ 1000000) : fExtend (.lst a) [.lst b] = some (.non, .lst (a ++ b)) := by
  simp only [fExtend]
  rw [if_pos h]
end Cq.Sp

set_option Elab.async false
set_option linter.all false
set_option maxRecDepth 100000
set_option maxHeartbeats 1000000
namespace Cq.Sp
open PySem PyProof.Rows L2 Cq
def addv (v : Int) (kn : List Int) : List Int := if v ∈ kn then kn else kn ++ [v]
theorem addv_len {v : Int} {kn : List Int} : (addv v kn).length ≤ kn.length + 1 := by
  unfold addv
  split
  · omega
  · simp
theorem addv_mem {v : Int} {kn : List Int} : v ∈ addv v kn := by
  unfold addv
  split
  · assumption
  · simp
theorem addv_ge {v w : Int} {kn : List Int} (h : w ∈ kn) : w ∈ addv v kn := by
  unfold addv
  split
  · exact h
  · simp [h]
theorem addv_pre {v : Int} {kn : List Int} : ∃ l, addv v kn = kn ++ l := by
  unfold addv
  split
  · exact ⟨[], by simp⟩
  · exact ⟨_, rfl⟩
def kn2 (kn : List Int) (a : Atm) : List Int := addv a.w (addv a.v kn)
theorem kn2_pre {a : Atm} {kn : List Int} : ∃ l, kn2 kn a = kn ++ l := by
  obtain ⟨l, e⟩ := addv_pre (v := a.v) (kn := kn)
  obtain ⟨m, e2⟩ := addv_pre (v := a.w) (kn := addv a.v kn)
  exact ⟨l ++ m, by unfold kn2; rw [e2, e, List.append_assoc]⟩
theorem kn2_len {a : Atm} {kn : List Int} : (kn2 kn a).length ≤ kn.length + 2 := by
  have := addv_len (v := a.v) (kn := kn)
  have := addv_len (v := a.w) (kn := addv a.v kn)
  unfold kn2
  omega
theorem kn2_v {a : Atm} {kn : List Int} : a.v ∈ kn2 kn a := addv_ge addv_mem
theorem kn2_w {a : Atm} {kn : List Int} : a.w ∈ kn2 kn a := addv_mem
def kall : List Int → List Atm → List Int
  | kn, [] => kn
  | kn, a :: as => kall (kn2 kn a) as
theorem kall_pre : ∀ {as : List Atm} {kn : List Int}, ∃ l, kall kn as = kn ++ l
  | [], kn => ⟨[], by simp [kall]⟩
  | a :: as, kn => by
    obtain ⟨l, e⟩ := kn2_pre (a := a) (kn := kn)
    obtain ⟨m, e2⟩ := kall_pre (as := as) (kn := kn2 kn a)
    exact ⟨l ++ m, by rw [kall, e2, e, List.append_assoc]⟩
theorem kall_len : ∀ {as : List Atm} {kn : List Int}, (kall kn as).length ≤ kn.length + 2 * as.length
  | [], kn => by simp [kall]
  | a :: as, kn => by
    have := kall_len (as := as) (kn := kn2 kn a)
    have := kn2_len (a := a) (kn := kn)
    simp only [kall, List.length_cons]
    omega
def num1 (kn : List Int) (a : Atm) : Atm := ⟨a.k, (ix a.v kn : Nat), (ix a.w kn : Nat)⟩
def ctd : List Int → List Atm → List Atm
  | _, [] => []
  | kn, a :: as => num1 (kn2 kn a) a :: ctd (kn2 kn a) as
theorem ctd_len : ∀ {as : List Atm} {kn : List Int}, (ctd kn as).length = as.length
  | [], _ => rfl
  | a :: as, kn => congrArg (· + 1) ctd_len
theorem ctd_all : ∀ {as : List Atm} {kn : List Int}, ctd kn as = as.map (num1 (kall kn as))
  | [], _ => rfl
  | a :: as, kn => by
    rw [ctd, List.map_cons, kall, ctd_all (as := as)]
    congr 1
    obtain ⟨l, e⟩ := kall_pre (as := as) (kn := kn2 kn a)
    unfold num1
    rw [e, ix_app l kn2_v, ix_app l kn2_w]
theorem kall_mem : ∀ {as : List Atm} {kn : List Int} {a : Atm}, a ∈ as → a.v ∈ kall kn as ∧ a.w ∈ kall kn as
  | b :: as, kn, a, h => by
    rw [kall]
    rcases List.mem_cons.mp h with rfl | h
    · obtain ⟨l, e⟩ := kall_pre (as := as) (kn := kn2 kn a)
      rw [e]
      exact ⟨List.mem_append_left _ kn2_v, List.mem_append_left _ kn2_w⟩
    · exact kall_mem h
theorem ctd_ok {as : List Atm} (h : ∀ a ∈ as, a.ok) (h4 : as.length ≤ 4) : ∀ a ∈ ctd [] as, a.ok := fun b hb => by
  rw [ctd_all] at hb
  obtain ⟨a, ha, rfl⟩ := List.mem_map.mp hb
  have m := kall_mem (kn := []) ha
  have l := kall_len (as := as) (kn := [])
  have l1 := ix_lt m.1
  have l2 := ix_lt m.2
  simp only [List.length_nil] at l
  refine ⟨(h a ha).hk, ?_, ?_, ?_, ?_⟩ <;> simp only [num1] <;> omega
def il (kn : List Int) : D := .lst (kn.map .int)
def dkG : Nat → List Int → List (Key × D)
  | _, [] => []
  | i, v :: kn => (.inl v, .int (i : Nat)) :: dkG (i + 1) kn
def dk (kn : List Int) : D := .dik (dkG 0 kn)
end Cq.Sp

set_option Elab.async false
set_option linter.all false
set_option maxRecDepth 100000
set_option maxHeartbeats 1000000
namespace Cq.Sp
open PySem PyProof.Rows L2 Cq
def rg (n : Nat) : List Int := (List.range n).map fun i : Nat => (i : Int)
theorem rg_nd (n : Nat) : (rg n).Nodup := List.pairwise_map.mpr ((List.nodup_range (n := n)).imp fun h e => h (Int.ofNat.inj e))
theorem rg_len (n : Nat) : (rg n).length = n := by simp [rg]
theorem nd_perm {α : Type} [DecidableEq α] : ∀ {l m : List α}, l.Nodup → (∀ i ∈ l, i ∈ m) → m.length ≤ l.length → l.Perm m
  | [], m, _, _, h => by
    rw [List.length_eq_zero_iff.mp (Nat.le_zero.mp h)]
  | x :: l, m, nd, hs, h => by
    have hx := hs x List.mem_cons_self
    have nd' := List.nodup_cons.mp nd
    have hl : (m.erase x).length = m.length - 1 := List.length_erase_of_mem hx
    have h' : m.length ≤ l.length + 1 := h
    refine ((nd_perm (l := l) (m := m.erase x) nd'.2 (fun i hi => (List.mem_erase_of_ne (fun z => nd'.1 (by rw [← z]; exact hi))).mpr (hs i (List.mem_cons_of_mem _ hi))) (by omega)).cons x).trans (List.perm_cons_erase hx).symm
def ext (n : Nat) (old : List Int) : List (List Int) := ((rg n).filter fun i => !decide (i ∈ old)).map fun i => old ++ [i]
def idx (n : Nat) : Nat → List (List Int)
  | 0 => [[]]
  | k + 1 => (idx n k).flatMap (ext n)
theorem ext_mem {n : Nat} {old l : List Int} : l ∈ ext n old ↔ ∃ i, i ∈ rg n ∧ i ∉ old ∧ l = old ++ [i] := by
  unfold ext
  simp only [List.mem_map, List.mem_filter, Bool.not_eq_true', decide_eq_false_iff_not]
  constructor
  · rintro ⟨i, ⟨h1, h2⟩, rfl⟩; exact ⟨i, h1, h2, rfl⟩
  · rintro ⟨i, h1, h2, rfl⟩; exact ⟨i, ⟨h1, h2⟩, rfl⟩
theorem idx_mem {n : Nat} : ∀ {k : Nat} {l : List Int}, l ∈ idx n k ↔ l.length = k ∧ l.Nodup ∧ ∀ i ∈ l, i ∈ rg n
  | 0, l => by
    rw [idx, List.mem_singleton]
    constructor
    · rintro rfl; exact ⟨rfl, .nil, fun _ h => nomatch h⟩
    · rintro ⟨h, _⟩; exact List.length_eq_zero_iff.mp h
  | k + 1, l => by
    rw [idx, List.mem_flatMap]
    constructor
    · rintro ⟨old, h1, h2⟩
      obtain ⟨i, h3, h4, rfl⟩ := ext_mem.mp h2
      obtain ⟨a, b, c⟩ := idx_mem.mp h1
      refine ⟨by simp [a], ?_, fun j hj => ?_⟩
      · rw [List.nodup_append]
        exact ⟨b, by simp, fun x hx y hy z => by rw [List.mem_singleton.mp hy] at z; exact h4 (z ▸ hx)⟩
      · rcases List.mem_append.mp hj with hj | hj
        · exact c j hj
        · rw [List.mem_singleton.mp hj]; exact h3
    · rintro ⟨a, b, c⟩
      have ne : l ≠ [] := fun z => by rw [z] at a; cases a
      refine ⟨l.dropLast, idx_mem.mpr ⟨by simp [a], b.sublist (List.dropLast_sublist l), fun i hi => c i (List.dropLast_sublist l |>.subset hi)⟩, ext_mem.mpr ⟨l.getLast ne, c _ (List.getLast_mem ne), ?_, (List.dropLast_concat_getLast ne).symm⟩⟩
      rw [← List.dropLast_concat_getLast ne, List.nodup_append] at b
      exact fun z => b.2.2 _ z _ List.mem_cons_self rfl
theorem idx_perm {n : Nat} {l : List Int} : l ∈ idx n n ↔ l.Perm (rg n) := by
  rw [idx_mem]
  constructor
  · rintro ⟨a, b, c⟩
    exact nd_perm b c (by rw [rg_len, a]; exact Nat.le_refl _)
  · intro p
    exact ⟨p.length_eq.trans (rg_len n), p.nodup_iff.mpr (rg_nd n), fun i hi => p.subset hi⟩
end Cq.Sp

set_option Elab.async false
set_option linter.all false
set_option maxRecDepth 100000
set_option maxHeartbeats 1000000
namespace Cq.Sp
open PySem PyProof.Rows L2 Cq
def pick (as : List Atm) (i : Int) : Atm := as.getD i.toNat ⟨0, 0, 0⟩
theorem pick_all {as : List Atm} : (rg as.length).map (pick as) = as := by
  refine List.ext_getElem (by simp [rg_len]) fun i h1 h2 => ?_
  simp [rg, pick, List.getElem?_eq_getElem h2]
def ords (as : List Atm) : List (List Atm) := (idx as.length as.length).map fun l => l.map (pick as)
theorem ords_mem {as l : List Atm} : l ∈ ords as ↔ l.Perm as := by
  unfold ords
  rw [List.mem_map]
  constructor
  · rintro ⟨o, h, rfl⟩
    have := (idx_perm.mp h).map (pick as)
    rw [pick_all] at this
    exact this
  · intro p
    rw [← pick_all (as := as)] at p
    obtain ⟨o, h, e⟩ := perm_map_inv p
    exact ⟨o, idx_perm.mpr h, e.symm⟩
end Cq.Sp

set_option Elab.async false
set_option linter.all false
set_option maxRecDepth 100000
set_option maxHeartbeats 1000000
namespace Cq.Sp
open PySem PyProof.Rows L2 Cq
def Ap (a : Atm) : PyData := .tuple [.str ⟨#[a.k]⟩, .int a.v, .int a.w]
def tp (l : List Atm) : D := .tup (l.map Atm.d)
def Tp (l : List Atm) : PyData := .tuple (l.map Ap)
theorem at_py (a : Atm) : a.d.py = some (Ap a) := rfl
theorem ats_py (l : List Atm) : pyL (l.map Atm.d) = some (l.map Ap) := py_map Atm.d Ap fun a _ => at_py a
theorem tp_py (l : List Atm) : (tp l).py = some (Tp l) := by
  show (pyL (l.map Atm.d)).map PyData.tuple = _
  rw [ats_py]
  rfl
theorem ap_toks (a : Atm) : PySem.W.keyToks (Ap a) = [.inl 1, .inr [a.k], .inl 1, .inl a.v, .inl 1, .inl a.w, .inl 0] := by
  simp [Ap, PySem.W.keyToks, PySem.W.keyToksAll]
theorem tp_inj : ∀ {l m : List Atm}, PySem.W.keyToksAll (l.map Ap) = PySem.W.keyToksAll (m.map Ap) → l = m
  | [], [], _ => rfl
  | [], _ :: _, h => by simp [PySem.W.keyToksAll] at h
  | _ :: _, [], h => by simp [PySem.W.keyToksAll] at h
  | a :: l, b :: m, h => by
    simp only [List.map_cons, PySem.W.keyToksAll, ap_toks, List.cons_append, List.nil_append, List.cons.injEq, Sum.inr.injEq, Sum.inl.injEq, true_and, and_true] at h
    obtain ⟨h1, h2, h3, h4⟩ := h
    have e := tp_inj h4
    subst e
    obtain ⟨ak, av, aw⟩ := a
    obtain ⟨bk, bv, bw⟩ := b
    simp only at h1 h2 h3
    rw [h1, h2, h3]
def tle (l m : List Atm) : Bool := leD (tp l) (tp m)
theorem pyd_tp (l : List Atm) : pyD (tp l) = Tp l := by unfold pyD; rw [tp_py]
theorem tle_anti {l m : List Atm} (h1 : tle l m = true) (h2 : tle m l = true) : l = m := by
  have e := leD_anti h1 h2
  rw [pyd_tp, pyd_tp] at e
  simp only [Tp, PySem.W.keyToks] at e
  exact tp_inj e
theorem dep_ap : ∀ l : List Atm, PyData.depthAll (l.map Ap) ≤ 1
  | [] => by simp [PyData.depthAll]
  | a :: l => by
    have := dep_ap l
    simp only [List.map_cons, PyData.depthAll, Ap, PyData.depth]
    omega
theorem lay_ap : ∀ l : List Atm, (∀ a ∈ l, a.ok) → PyData.canLayAll0 (l.map Ap) = true
  | [], _ => rfl
  | a :: l, h => by
    have ih := lay_ap l fun b hb => h b (List.mem_cons_of_mem _ hb)
    obtain ⟨p, e1, e2, _⟩ := (sm_at (h a List.mem_cons_self)).ok
    rw [at_py] at e1
    cases e1
    simp only [List.map_cons, PyData.canLayAll0, e2, ih, Bool.and_self]
theorem first_eq {ls ms : List (List Atm)} {l m : List Atm} (h : ∀ x, x ∈ ls ↔ x ∈ ms) (hl : l ∈ ls) (hm : m ∈ ms) (h1 : ∀ x ∈ ls, tle l x = true) (h2 : ∀ x ∈ ms, tle m x = true) : l = m := tle_anti (h1 m ((h m).mpr hm)) (h2 l ((h l).mp hl))
end Cq.Sp

set_option Elab.async false
set_option linter.all false
set_option maxRecDepth 100000
set_option maxHeartbeats 1000000
namespace Cq.Sp
open PySem PyProof.Rows L2 Cq
theorem atoms_p {as : List Atm} : f_Question_atoms [qd as] = some (.ret (.tup (as.map Atm.d)) []) := by
  have hf : mFld [1] 0 (.nm 0) [.im (qd as)] = some (.ok (.tup (as.map Atm.d)) [.im (qd as)]) := rfl
  unfold f_Question_atoms m_Question_atoms
  simp (config := { decide := false }) only [↓runDef, gOf, slotOf, endMs, ↓seqE, ↓bindE, bindO_ok, bindO_ex, bindO_none, seqO_nx, seqO_rt, seqO_rn, seqO_bk, seqO_ct, seqO_ex, seqO_none, ↓retE, ↓failE, ↓ifE, ↓andE, ↓andK_t, ↓andK_f, ↓orE, ↓orK_t, ↓orK_f, ↓andBE, ↓andBK_t, ↓andBK_f, ↓orBE, ↓orBK_t, ↓orBK_f, ↓chE, ↓chK_t, ↓chK_f, ifO_t, ifO_f, ↓mVa, ↓mFz, ↓mNm, ↓mFrz, ↓mOp2, ↓mOp1, ↓f2E, ↓f1E, ↓fsE, ansO_some, ansO_none, rdAll, Hd.rd, D.flat, ↓mCons, ↓mCall, ↓mTup, ↓mLst, ↓mFrzs, dBool, dadd, dsub, dgt, dMax2, dMin2, ↓mSet, ↓mSetN, ↓mSetIx, mKindN, isKindN, mWr, beq_self_eq_true, Sl.cell, Sl.put, ↓mFrzM, argDs, argD, apartB, putMu, ↓mCallF, ↓mCallN, Hd.isNm, nmu, List.cons_append, List.nil_append, List.length_cons, List.length_nil, List.replicate_succ, List.replicate_zero, List.getElem?_cons_zero, List.getElem?_cons_succ, List.set_cons_zero, List.set_cons_succ, List.any_nil, List.any_cons, Nat.reduceAdd, Nat.reduceSub, Nat.reduceBEq, if_true, if_false, Bool.false_eq_true, ↓reduceIte, Option.bind_some, Option.map_some, Bool.or_self, Bool.false_or, Bool.or_false, Bool.true_or, Bool.or_true, List.contains_nil, List.contains_cons, Bool.and_self, Bool.not_false, Bool.not_true, Bool.true_and, Bool.and_true, Bool.false_and, decide_true, decide_false, hf]
theorem q_clsN {as : List Atm} {g : Gm} {i : Nat} (h : g[i]? = some (.im (qd as))) : mCls [1] (.nm i) g = some (.ok 1 g) := by
  simp only [mCls, Hd.ins, h]
  rfl
theorem prop_n {as : List Atm} {g : Gm} {i : Nat} (h : g[i]? = some (.im (qd as))) : mProp [1] .im (fun _ => f_Question_atoms) (.nm i) g = some (.ok (.tup (as.map Atm.d)) g) := by
  unfold mProp
  simp (config := { decide := false }) only [↓runDef, gOf, slotOf, endMs, ↓seqE, ↓bindE, bindO_ok, bindO_ex, bindO_none, seqO_nx, seqO_rt, seqO_rn, seqO_bk, seqO_ct, seqO_ex, seqO_none, ↓retE, ↓failE, ↓ifE, ↓andE, ↓andK_t, ↓andK_f, ↓orE, ↓orK_t, ↓orK_f, ↓andBE, ↓andBK_t, ↓andBK_f, ↓orBE, ↓orBK_t, ↓orBK_f, ↓chE, ↓chK_t, ↓chK_f, ifO_t, ifO_f, ↓mVa, ↓mFz, ↓mNm, ↓mFrz, ↓mOp2, ↓mOp1, ↓f2E, ↓f1E, ↓fsE, ansO_some, ansO_none, rdAll, Hd.rd, D.flat, ↓mCons, ↓mCall, ↓mTup, ↓mLst, ↓mFrzs, dBool, dadd, dsub, dgt, dMax2, dMin2, ↓mSet, ↓mSetN, ↓mSetIx, mKindN, isKindN, mWr, beq_self_eq_true, Sl.cell, Sl.put, ↓mFrzM, argDs, argD, apartB, putMu, ↓mCallF, ↓mCallN, Hd.isNm, nmu, List.cons_append, List.nil_append, List.length_cons, List.length_nil, List.replicate_succ, List.replicate_zero, List.getElem?_cons_zero, List.getElem?_cons_succ, List.set_cons_zero, List.set_cons_succ, List.any_nil, List.any_cons, Nat.reduceAdd, Nat.reduceSub, Nat.reduceBEq, if_true, if_false, Bool.false_eq_true, ↓reduceIte, Option.bind_some, Option.map_some, Bool.or_self, Bool.false_or, Bool.or_false, Bool.true_or, Bool.or_true, List.contains_nil, List.contains_cons, Bool.and_self, Bool.not_false, Bool.not_true, Bool.true_and, Bool.and_true, Bool.false_and, decide_true, decide_false, q_clsN h, h, atoms_p, noEx]
def nords (as : List Atm) : List (List Atm) := (ords as).map (ctd [])
theorem nords_mem {as l : List Atm} : l ∈ nords as ↔ ∃ o, o.Perm as ∧ l = ctd [] o := by
  unfold nords
  rw [List.mem_map]
  exact ⟨fun ⟨o, h, e⟩ => ⟨o, ords_mem.mp h, e.symm⟩, fun ⟨o, h, e⟩ => ⟨o, ords_mem.mpr h, e.symm⟩⟩
theorem nords_ok {as : List Atm} (h : ∀ a ∈ as, a.ok) (h4 : as.length ≤ 4) : ∀ l ∈ nords as, ∀ a ∈ l, a.ok := fun l hl => by
  obtain ⟨o, p, rfl⟩ := nords_mem.mp hl
  exact ctd_ok (fun a ha => h a (p.subset ha)) (by rw [p.length_eq]; exact h4)
theorem nords_len {as : List Atm} : ∀ l ∈ nords as, l.length = as.length := fun l hl => by
  obtain ⟨o, p, rfl⟩ := nords_mem.mp hl
  rw [ctd_len, p.length_eq]
structure Fst (as m : List Atm) : Prop where
  mem : m ∈ nords as
  le : ∀ x ∈ nords as, tle m x = true
theorem Fst.ok {as m : List Atm} (f : Fst as m) (h : ∀ a ∈ as, a.ok) (h4 : as.length ≤ 4) : ∀ a ∈ m, a.ok := nords_ok h h4 m f.mem
theorem Fst.len {as m : List Atm} (f : Fst as m) : m.length = as.length := nords_len m f.mem
theorem Fst.uniq {as l m : List Atm} (a : Fst as l) (b : Fst as m) : l = m := first_eq (fun _ => .rfl) a.mem b.mem a.le b.le
end Cq.Sp

set_option Elab.async false
set_option linter.all false
set_option maxRecDepth 100000
set_option maxHeartbeats 1000000
namespace Cq.Sp
open PySem PyProof.Rows L2 Cq
theorem int_ok {v : Int} : f_is_integer [.int v] = some (.ret (.bl true) []) := rfl
theorem filter_all {α : Type} : ∀ l : List α, (l.filter fun _ => true) = l
  | [] => rfl
  | a :: l => by simp
end Cq.Sp

set_option Elab.async false
set_option linter.all false
set_option maxRecDepth 100000
set_option maxHeartbeats 1000000
namespace Cq.Sp
open PySem PyProof.Rows L2 Cq
theorem filter_map_all {α β : Type} {f : α → β} (l : List α) : (l.filter fun _ => true).map f = l.map f := by rw [filter_all]
def Atm.tn (a : Atm) : Atm := ⟨a.k, a.w, a.v⟩
theorem Atm.ok.tn {a : Atm} (h : a.ok) : a.tn.ok := ⟨h.hk, h.w0, h.w1, h.v0, h.v1⟩
theorem fld_ok {as : List Atm} {g : Gm} {i : Nat} (h : g[i]? = some (.im (qd as))) : mFld [1] 0 (.nm i) g = some (.ok (.tup (as.map Atm.d)) g) := by
  simp only [mFld, Hd.ins, h]
  rfl
end Cq.Sp

set_option Elab.async false
set_option linter.all false
set_option maxRecDepth 100000
set_option maxHeartbeats 1000000
namespace Cq.Sp
open PySem PyProof.Rows L2 Cq
def step (kn : List Int) (a : Atm) : List Int := if a.v ∈ kn ∨ a.w ∈ kn then kn ++ [a.v, a.w] else kn
def fin (as : List Atm) (a0 : Atm) : List Int := as.foldl (fun kn _ => as.foldl step kn) [a0.v, a0.w]
theorem vars_ok {as : List Atm} (h4 : as.length ≤ 4) : f_variables_of [.tup (as.map Atm.d)] = some (.ret (.tup ((sdL (vals as)).map .int)) []) := by
  have c1 : mLc (some 0) (mItN 0) [1] (tgNm 1) (M.ret true) e_variables_of_1 [.im (.tup (as.map Atm.d)), .un] = some (.ok (.lst ((as.map (·.v)).map .int)) [.im (.tup (as.map Atm.d)), .un]) := by
    have := mLc_run (T := tgNm 1) (c := M.ret true) (e := e_variables_of_1) (l := some 0) (it := mItN 0) (vs := [1]) (g := [.im (.tup (as.map Atm.d)), .un]) (ds := as.map Atm.d) (fun _ => true) (fun d => match d with | .tup [a, b, c] => b | _ => .non) rfl rfl (by simp; omega) rfl rfl fun d hd => by
      obtain ⟨a, ha, rfl⟩ := List.mem_map.mp hd
      exact ⟨_, rfl, rfl, fun _ => rfl, rfl⟩
    rw [this, filter_map_all, List.map_map, List.map_map]
    rfl
  have c2 : mLc (some 0) (mItN 0) [1] (tgNm 1) (M.ret true) e_variables_of_2 [.im (.tup (as.map Atm.d)), .un] = some (.ok (.lst ((as.map (·.w)).map .int)) [.im (.tup (as.map Atm.d)), .un]) := by
    have := mLc_run (T := tgNm 1) (c := M.ret true) (e := e_variables_of_2) (l := some 0) (it := mItN 0) (vs := [1]) (g := [.im (.tup (as.map Atm.d)), .un]) (ds := as.map Atm.d) (fun _ => true) (fun d => match d with | .tup [a, b, c] => c | _ => .non) rfl rfl (by simp; omega) rfl rfl fun d hd => by
      obtain ⟨a, ha, rfl⟩ := List.mem_map.mp hd
      exact ⟨_, rfl, rfl, fun _ => rfl, rfl⟩
    rw [this, filter_map_all, List.map_map, List.map_map]
    rfl
  have ha : dAdd (.lst ((as.map (·.v)).map .int)) (.lst ((as.map (·.w)).map .int)) = some (.lst ((vals as).map .int)) := by
    simp only [dAdd]
    rw [if_pos (by simp; omega), vals, List.map_append]
  have hs : iSortSet [.lst ((vals as).map .int)] = some (.lst ((sdL (vals as)).map .int)) := by
    simp only [iSortSet, intsOf_map]
    rw [if_pos (by simp [vals]; omega)]
  unfold f_variables_of m_variables_of
  simp (config := { decide := false }) only [↓runDef, gOf, slotOf, endMs, ↓seqE, ↓bindE, bindO_ok, bindO_ex, bindO_none, seqO_nx, seqO_rt, seqO_rn, seqO_bk, seqO_ct, seqO_ex, seqO_none, ↓retE, ↓failE, ↓ifE, ↓andE, ↓andK_t, ↓andK_f, ↓orE, ↓orK_t, ↓orK_f, ↓andBE, ↓andBK_t, ↓andBK_f, ↓orBE, ↓orBK_t, ↓orBK_f, ↓chE, ↓chK_t, ↓chK_f, ifO_t, ifO_f, ↓mVa, ↓mFz, ↓mNm, ↓mFrz, ↓mOp2, ↓mOp1, ↓f2E, ↓f1E, ↓fsE, ansO_some, ansO_none, rdAll, Hd.rd, D.flat, ↓mCons, ↓mCall, ↓mTup, ↓mLst, ↓mFrzs, dBool, dadd, dsub, dgt, dMax2, dMin2, ↓mSet, ↓mSetN, ↓mSetIx, mKindN, isKindN, mWr, beq_self_eq_true, Sl.cell, Sl.put, ↓mFrzM, argDs, argD, apartB, putMu, ↓mCallF, ↓mCallN, Hd.isNm, nmu, List.cons_append, List.nil_append, List.length_cons, List.length_nil, List.replicate_succ, List.replicate_zero, List.getElem?_cons_zero, List.getElem?_cons_succ, List.set_cons_zero, List.set_cons_succ, List.any_nil, List.any_cons, Nat.reduceAdd, Nat.reduceSub, Nat.reduceBEq, if_true, if_false, Bool.false_eq_true, ↓reduceIte, Option.bind_some, Option.map_some, Bool.or_self, Bool.false_or, Bool.or_false, Bool.true_or, Bool.or_true, List.contains_nil, List.contains_cons, Bool.and_self, Bool.not_false, Bool.not_true, Bool.true_and, Bool.and_true, Bool.false_and, decide_true, decide_false, c1, c2, ha, hs, dTuple]
abbrev t3 : Tgt := tgTup 3 (tgCons (tgNm 3) (tgCons (tgNm 4) (tgCons (tgNm 5) tgNil)))
end Cq.Sp

set_option Elab.async false
set_option linter.all false
set_option maxRecDepth 100000
set_option maxHeartbeats 1000000
namespace Cq.Sp
open PySem PyProof.Rows L2 Cq
theorem ne_nilQ {xs : List D} {ps : List PyData} (h : pyL xs = some ps) (sh : SeqAt.shaped (.list ps) = true) : dNe (.lst xs) (.lst []) = some (.bl (!xs.isEmpty)) := by
  have e : PyData.eqv (.list ps) (.list []) = xs.isEmpty := by
    cases xs with
    | nil => cases h; rfl
    | cons x xs =>
      simp only [pyL] at h
      cases h1 : x.py with
      | none => simp [h1] at h
      | some p => cases h2 : pyL xs with
        | none => simp [h1, h2] at h
        | some qs => simp only [h1, h2] at h; cases h; rfl
  show dNeP _ _ = _
  simp only [dNeP, D.py, h, Option.map_some, pyL]
  rw [if_pos ⟨sh, rfl⟩, e]
def Atm.p (a : Atm) : PyData := .tuple [.str ⟨#[a.k]⟩, .int a.v, .int a.w]
theorem py_ats : ∀ as : List Atm, pyL (as.map Atm.d) = some (as.map Atm.p)
  | [] => rfl
  | a :: as => by simp only [List.map_cons, pyL, D.py, Atm.d, py_ats as, Option.map_some]; rfl
theorem lay_ats : ∀ {as : List Atm}, (∀ a ∈ as, a.ok) → PyData.canLayAll0 (as.map Atm.p) = true
  | [], _ => rfl
  | a :: as, h => by
    have h1 : PyData.canLay0 a.p = true := by
      have := (h a List.mem_cons_self).hk
      show (PyData.canLay0 (.str ⟨#[a.k]⟩) && true) = true
      rcases this with e | e | e <;> rw [e] <;> decide +kernel
    simp only [List.map_cons, PyData.canLayAll0, h1, lay_ats fun b hb => h b (List.mem_cons_of_mem _ hb), Bool.and_self]
theorem dep_ats : ∀ as : List Atm, PyData.depthAll (as.map Atm.p) ≤ 2
  | [] => by simp [PyData.depthAll]
  | a :: as => by
    have := dep_ats as
    have e : PyData.depth a.p = 1 := rfl
    simp only [List.map_cons, PyData.depthAll, e]
    omega
theorem shp_ats {as : List Atm} (h : ∀ a ∈ as, a.ok) : SeqAt.shaped (.list (as.map Atm.p)) = true := by
  have := dep_ats as
  unfold SeqAt.shaped
  rw [show PyData.canLay0 (.list (as.map Atm.p)) = true from lay_ats h, Bool.true_and]
  exact decide_eq_true (show PyData.depthAll (as.map Atm.p) + 1 ≤ 64 by omega)
theorem ne_ats {as : List Atm} (h : ∀ a ∈ as, a.ok) : dNe (.lst (as.map Atm.d)) (.lst []) = some (.bl (!as.isEmpty)) := by
  rw [ne_nilQ (py_ats as) (shp_ats h)]
  cases as <;> rfl
theorem ne_ints (kn : List Int) : dNe (.lst (kn.map .int)) (.lst []) = some (.bl (!kn.isEmpty)) := by
  rw [ne_nilQ (py_ints kn) (shp_ints kn)]
  cases kn <;> rfl
def hasV (as : List Atm) (n : Int) : Bool := as.any fun a => decide (a.v = n) || decide (a.w = n)
def nms (as : List Atm) : List Int := ((List.range 10).map fun i : Nat => (i : Int)).filter (hasV as)
theorem in_two {n v w : Int} : dIn (.int n) (.tup [.int v, .int w]) = some (.bl (decide (v = n) || decide (w = n))) := by
  simp [dIn, flatD, eqF]
theorem has_eq {as : List Atm} {n : Int} : (!((as.filter fun a => decide (a.v = n) || decide (a.w = n)).map fun _ => (1 : Int)).isEmpty) = hasV as n := by
  unfold hasV
  induction as with
  | nil => rfl
  | cons a as ih =>
    simp only [List.filter_cons, List.any_cons]
    cases h : decide (a.v = n) || decide (a.w = n) with
    | true => simp
    | false => simpa using ih
end Cq.Sp

set_option Elab.async false
set_option linter.all false
set_option maxRecDepth 100000
set_option maxHeartbeats 1000000
namespace Cq.Sp
open PySem PyProof.Rows L2 Cq
abbrev Pr := List Atm × List Atm
def Pr.d (p : Pr) : D := .tup [.lst (p.1.map Atm.d), .lst (p.2.map Atm.d)]
def both (a : Atm) (p : Pr) : List Pr := [(p.1 ++ [a], p.2), (p.1, p.2 ++ [a])]
def bnd (k : Nat) (ps : List Pr) : Prop := ∀ p ∈ ps, p.1.length ≤ k ∧ p.2.length ≤ k
abbrev t2 : Tgt := tgTup 2 (tgCons (tgNm 4) (tgCons (tgNm 5) tgNil))
theorem two_lit : (2 : Nat) ≤ 1000000 := by decide
theorem one_lit : (1 : Nat) ≤ 1000000 := by decide
theorem zero_lit : (0 : Nat) ≤ 1000000 := by decide
/-- a division with nothing in common -/
def apart (p : Pr) : Bool := !p.1.isEmpty && (!p.2.isEmpty && ((nms p.1).filter fun n => decide (n ∈ nms p.2)).isEmpty)
end Cq.Sp

set_option Elab.async false
set_option linter.all false
set_option maxRecDepth 100000
set_option maxHeartbeats 1000000
set_option Elab.async false
set_option linter.all false
set_option maxRecDepth 100000
set_option maxHeartbeats 1000000
namespace Cq.Sp
open PySem PyProof.Rows L2 Cq
theorem mem_nms {as : List Atm} (h : ∀ a ∈ as, a.ok) {n : Int} : n ∈ nms as ↔ ∃ a ∈ as, a.v = n ∨ a.w = n := by
  unfold nms hasV
  simp only [List.mem_filter, List.any_eq_true, Bool.or_eq_true, decide_eq_true_eq, List.mem_map, List.mem_range]
  constructor
  · exact fun z => z.2
  · rintro ⟨a, ha, e⟩
    have ok := h a ha
    refine ⟨⟨n.toNat, ?_, ?_⟩, a, ha, e⟩
    · have := ok.v0; have := ok.v1; have := ok.w0; have := ok.w1; omega
    · have := ok.v0; have := ok.w0; omega
end Cq.Sp

set_option Elab.async false
set_option linter.all false
set_option maxRecDepth 100000
set_option maxHeartbeats 1000000
namespace Cq.Sp
open PySem PyProof.Rows L2 Cq
/-- the walk over the divisions, over a mapped list -/
theorem forL_anyM {α : Type} {T : Tgt} {body : M Fl} {z : D} (f : α → D) (t : α → Bool) (I : Gm → Prop) : ∀ {ds : List α} {g : Gm}, I g → (∀ d ∈ ds, ∀ g, I g → ∃ g1 g2, T (f d) g = some g1 ∧ I g2 ∧ body g1 = some (.ok (if t d = true then .rt z else .nx) g2)) →
    ∃ g', I g' ∧ forL T body (ds.map f) g = some (.ok (if ds.any t = true then .rt z else .nx) g')
  | [], g, hi, _ => ⟨g, hi, rfl⟩
  | d :: r, g, hi, hs => by
    obtain ⟨g1, g2, h1, h2, h3⟩ := hs d List.mem_cons_self g hi
    cases h : t d with
    | true =>
      rw [h] at h3
      exact ⟨g2, h2, by simp only [List.map_cons, forL, h1, h3, List.any_cons, h, Bool.true_or, if_true]⟩
    | false =>
      rw [h] at h3
      obtain ⟨g', z1, z2⟩ := forL_anyM f t I h2 fun d' hd => hs d' (List.mem_cons_of_mem _ hd)
      exact ⟨g', z1, by simp only [List.map_cons, forL, h1, h3, Bool.false_eq_true, if_false, z2, List.any_cons, h, Bool.false_or]⟩
end Cq.Sp

set_option Elab.async false
set_option linter.all false
set_option maxRecDepth 100000
set_option maxHeartbeats 1000000
namespace Cq.Sp
open PySem PyProof.Rows L2 Cq
theorem adx0 {a : Atm} : dIx a.d (.int 0) = some (.str ⟨#[a.k]⟩) := tix0
theorem adx2 {a : Atm} : dIx a.d (.int 2) = some (.int a.w) := tix2
theorem last_ix {f : List Atm} {l : Atm} : dIx (.lst ((f ++ [l]).map Atm.d)) (.int (-1)) = some l.d := by
  show atI ((f ++ [l]).map Atm.d) (-1) = _
  have hl : ((f ++ [l]).map Atm.d).length = f.length + 1 := by simp
  have e : ixN (f.length + 1) (-1) = some f.length := by
    unfold ixN
    rw [if_neg (by decide), if_pos (by omega)]
    congr 1
    omega
  unfold atI
  rw [hl, e]
  simp
theorem neg_one : dNeg (.int 1) = some (.int (-1)) := rfl
theorem app_ok {f : List Atm} {x : Atm} (h : f.length < 100) : fAppend (.lst (f.map Atm.d)) [x.d] = some (.non, .lst ((f ++ [x]).map Atm.d)) := by
  simp only [fAppend]
  rw [if_pos (by simp; omega)]
  simp
theorem three_lit : (3 : Nat) ≤ 1000000 := by decide
def pools : List (List Int) := [[0], [0, 1], [0, 1, 2], [9, 4], [3, 0, 7], [0, 1, 2, 3], [2, 3, 5, 8, 9], [0, 1, 2, 3, 4, 5, 6, 7, 8, 9]]
def kindsL : List Str := ["A", "A", "AB", "CAB", "CB"]
theorem pools_ok : ∀ ps ∈ pools, ps ≠ [] ∧ ps.length ≤ 10 ∧ ∀ v ∈ ps, 0 ≤ v ∧ v ≤ 9 := by decide
theorem kinds_ok : ∀ z ∈ kindsL, z.cps.toList ≠ [] ∧ z.cps.toList.length ≤ 10 ∧ ∀ k ∈ z.cps.toList, k = 65 ∨ k = 66 ∨ k = 67 := by decide +kernel
end Cq.Sp

set_option Elab.async false
set_option linter.all false
set_option maxRecDepth 100000
set_option maxHeartbeats 1000000
namespace Cq.S6
open PySem PyProof.Rows L2 Cq Cq.Sp
theorem draw1z (a b c n : Int) (hn : 0 < n) (h2 : n < 1073741824) : ∃ r a' b' c', f_x_law_draw [.lst [.int a, .int b, .int c], .int n] = some (.ret (.int r) [.lst [.int a', .int b', .int c']]) ∧ 0 ≤ r ∧ r < n := by
  obtain ⟨r, s', e, h⟩ := draw1 ⟨a, b, c⟩ n hn h2
  exact ⟨r, s'.a, s'.b, s'.c, e, h⟩
theorem choose_lz {xs : List D} (a b c : Int) (h0 : xs ≠ []) (h1 : xs.length < 1073741824) : ∃ x ∈ xs, ∃ a' b' c', f_x_law_choose [.lst [.int a, .int b, .int c], .lst xs] = some (.ret x [.lst [.int a', .int b', .int c']]) := by
  obtain ⟨x, hx, s', e⟩ := choose_l ⟨a, b, c⟩ h0 h1
  exact ⟨x, hx, s'.a, s'.b, s'.c, e⟩
theorem choose_tz {xs : List D} (a b c : Int) (h0 : xs ≠ []) (h1 : xs.length < 1073741824) : ∃ x ∈ xs, ∃ a' b' c', f_x_law_choose [.lst [.int a, .int b, .int c], .tup xs] = some (.ret x [.lst [.int a', .int b', .int c']]) := by
  obtain ⟨x, hx, s', e⟩ := choose_t ⟨a, b, c⟩ h0 h1
  exact ⟨x, hx, s'.a, s'.b, s'.c, e⟩
theorem choose_sz {z : Str} (a b c : Int) (h0 : z.cps.toList ≠ []) (h1 : z.cps.toList.length < 1000) : ∃ k ∈ z.cps.toList, ∃ a' b' c', f_x_law_choose [.lst [.int a, .int b, .int c], .str z] = some (.ret (.str ⟨#[k]⟩) [.lst [.int a', .int b', .int c']]) := by
  obtain ⟨x, hx, s', e⟩ := choose_s ⟨a, b, c⟩ h0 h1
  exact ⟨x, hx, s'.a, s'.b, s'.c, e⟩
theorem words_ok {as : List Atm} (h : ∀ a ∈ as, a.ok) (h4 : as.length ≤ 4) : f_x_law_words [.lst (as.map Atm.d)] = some (.ret (.str (Txt.join " " (as.map Atm.wd))) []) := by
  have hc : mLc (some 0) (mItN 0) [1, 2, 3] (tgTup 3 (tgCons (tgNm 1) (tgCons (tgNm 2) (tgCons (tgNm 3) tgNil)))) (M.ret true) e_x_law_words_1 [.im (.lst (as.map Atm.d)), .un, .un, .un] = some (.ok (.lst ((as.map Atm.wd).map .str)) [.im (.lst (as.map Atm.d)), .un, .un, .un]) := by
    have := mLc_run (T := tgTup 3 (tgCons (tgNm 1) (tgCons (tgNm 2) (tgCons (tgNm 3) tgNil)))) (c := M.ret true) (e := e_x_law_words_1) (l := some 0) (it := mItN 0) (vs := [1, 2, 3]) (g := [.im (.lst (as.map Atm.d)), .un, .un, .un]) (ds := as.map Atm.d) (fun _ => true) (fun d => match d with | .tup [.str ⟨ks⟩, .int v, .int w] => .str ⟨ks ++ #[48 + v.toNat, 48 + w.toNat]⟩ | _ => .non) rfl rfl (by simp; omega) rfl rfl fun d hd => by
      obtain ⟨a, ha, rfl⟩ := List.mem_map.mp hd
      refine ⟨_, rfl, rfl, fun _ => ?_, rfl⟩
      have ok := h a ha
      unfold e_x_law_words_1
      simp (config := { decide := false }) only [↓runDef, gOf, slotOf, endMs, ↓seqE, ↓bindE, bindO_ok, bindO_ex, bindO_none, seqO_nx, seqO_rt, seqO_rn, seqO_bk, seqO_ct, seqO_ex, seqO_none, ↓retE, ↓failE, ↓ifE, ↓andE, ↓andK_t, ↓andK_f, ↓orE, ↓orK_t, ↓orK_f, ↓andBE, ↓andBK_t, ↓andBK_f, ↓orBE, ↓orBK_t, ↓orBK_f, ↓chE, ↓chK_t, ↓chK_f, ifO_t, ifO_f, ↓mVa, ↓mFz, ↓mNm, ↓mFrz, ↓mOp2, ↓mOp1, ↓f2E, ↓f1E, ↓fsE, ansO_some, ansO_none, rdAll, Hd.rd, D.flat, ↓mCons, ↓mCall, ↓mTup, ↓mLst, ↓mFrzs, dBool, dadd, dsub, dgt, dMax2, dMin2, ↓mSet, ↓mSetN, ↓mSetIx, mKindN, isKindN, mWr, beq_self_eq_true, Sl.cell, Sl.put, ↓mFrzM, argDs, argD, apartB, putMu, ↓mCallF, ↓mCallN, Hd.isNm, nmu, List.cons_append, List.nil_append, List.length_cons, List.length_nil, List.replicate_succ, List.replicate_zero, List.getElem?_cons_zero, List.getElem?_cons_succ, List.set_cons_zero, List.set_cons_succ, List.any_nil, List.any_cons, Nat.reduceAdd, Nat.reduceSub, Nat.reduceBEq, if_true, if_false, Bool.false_eq_true, ↓reduceIte, Option.bind_some, Option.map_some, Bool.or_self, Bool.false_or, Bool.or_false, Bool.true_or, Bool.or_true, List.contains_nil, List.contains_cons, Bool.and_self, Bool.not_false, Bool.not_true, Bool.true_and, Bool.and_true, Bool.false_and, decide_true, decide_false, lendOut, wipeG, str_dig ok.v0 ok.v1, str_dig ok.w0 ok.w1, sadd (x := ⟨#[a.k]⟩) (y := ⟨#[48 + a.v.toNat]⟩) (z := ⟨#[a.k, 48 + a.v.toNat]⟩) (show 1 + 1 ≤ 1000000 by decide) rfl, sadd (x := ⟨#[a.k, 48 + a.v.toNat]⟩) (y := ⟨#[48 + a.w.toNat]⟩) (z := a.wd) (show 2 + 1 ≤ 1000000 by decide) rfl]
      rfl
    rw [this, filter_map_all, List.map_map, List.map_map]
    rfl
  have hj : fJoin (.str " ") [.lst ((as.map Atm.wd).map .str)] = some (.str (Txt.join " " (as.map Atm.wd))) := by
    simp only [fJoin, strs_of]
    rw [if_pos]
    rw [sum_wd, List.length_map]
    have : (" " : Str).length = 1 := rfl
    rw [this]
    omega
  unfold f_x_law_words m_x_law_words
  simp (config := { decide := false }) only [↓runDef, gOf, slotOf, endMs, ↓seqE, ↓bindE, bindO_ok, bindO_ex, bindO_none, seqO_nx, seqO_rt, seqO_rn, seqO_bk, seqO_ct, seqO_ex, seqO_none, ↓retE, ↓failE, ↓ifE, ↓andE, ↓andK_t, ↓andK_f, ↓orE, ↓orK_t, ↓orK_f, ↓andBE, ↓andBK_t, ↓andBK_f, ↓orBE, ↓orBK_t, ↓orBK_f, ↓chE, ↓chK_t, ↓chK_f, ifO_t, ifO_f, ↓mVa, ↓mFz, ↓mNm, ↓mFrz, ↓mOp2, ↓mOp1, ↓f2E, ↓f1E, ↓fsE, ansO_some, ansO_none, rdAll, Hd.rd, D.flat, ↓mCons, ↓mCall, ↓mTup, ↓mLst, ↓mFrzs, dBool, dadd, dsub, dgt, dMax2, dMin2, ↓mSet, ↓mSetN, ↓mSetIx, mKindN, isKindN, mWr, beq_self_eq_true, Sl.cell, Sl.put, ↓mFrzM, argDs, argD, apartB, putMu, ↓mCallF, ↓mCallN, Hd.isNm, nmu, List.cons_append, List.nil_append, List.length_cons, List.length_nil, List.replicate_succ, List.replicate_zero, List.getElem?_cons_zero, List.getElem?_cons_succ, List.set_cons_zero, List.set_cons_succ, List.any_nil, List.any_cons, Nat.reduceAdd, Nat.reduceSub, Nat.reduceBEq, if_true, if_false, Bool.false_eq_true, ↓reduceIte, Option.bind_some, Option.map_some, Bool.or_self, Bool.false_or, Bool.or_false, Bool.true_or, Bool.or_true, List.contains_nil, List.contains_cons, Bool.and_self, Bool.not_false, Bool.not_true, Bool.true_and, Bool.and_true, Bool.false_and, decide_true, decide_false, mMtK, mKind, isKind, hc, hj]
theorem inner_nm {as : List Atm} {n : Int} (h : as.length ≤ 100) : mLc (some 0) (mItN 0) [2] (tgNm 2) c_x_law_names_1 e_x_law_names_2 [.im (.lst (as.map Atm.d)), .im (.int n), .un] = some (.ok (.lst (((as.filter fun a => decide (a.v = n) || decide (a.w = n)).map fun _ => (1 : Int)).map .int)) [.im (.lst (as.map Atm.d)), .im (.int n), .un]) := by
  have := mLc_run (T := tgNm 2) (c := c_x_law_names_1) (e := e_x_law_names_2) (l := some 0) (it := mItN 0) (vs := [2]) (g := [.im (.lst (as.map Atm.d)), .im (.int n), .un]) (ds := as.map Atm.d)
    (fun d => match d with | .tup [_, .int v, .int w] => decide (v = n) || decide (w = n) | _ => false) (fun _ => .int 1) rfl rfl (by simp; omega) rfl rfl fun d hd => by
      obtain ⟨a, ha, rfl⟩ := List.mem_map.mp hd
      refine ⟨_, rfl, ?_, fun _ => rfl, rfl⟩
      have hs : dSl a.d (some 1) none = some (.tup [.int a.v, .int a.w]) := rfl
      unfold c_x_law_names_1
      simp (config := { decide := false }) only [↓runDef, gOf, slotOf, endMs, ↓seqE, ↓bindE, bindO_ok, bindO_ex, bindO_none, seqO_nx, seqO_rt, seqO_rn, seqO_bk, seqO_ct, seqO_ex, seqO_none, ↓retE, ↓failE, ↓ifE, ↓andE, ↓andK_t, ↓andK_f, ↓orE, ↓orK_t, ↓orK_f, ↓andBE, ↓andBK_t, ↓andBK_f, ↓orBE, ↓orBK_t, ↓orBK_f, ↓chE, ↓chK_t, ↓chK_f, ifO_t, ifO_f, ↓mVa, ↓mFz, ↓mNm, ↓mFrz, ↓mOp2, ↓mOp1, ↓f2E, ↓f1E, ↓fsE, ansO_some, ansO_none, rdAll, Hd.rd, D.flat, ↓mCons, ↓mCall, ↓mTup, ↓mLst, ↓mFrzs, dBool, dadd, dsub, dgt, dMax2, dMin2, ↓mSet, ↓mSetN, ↓mSetIx, mKindN, isKindN, mWr, beq_self_eq_true, Sl.cell, Sl.put, ↓mFrzM, argDs, argD, apartB, putMu, ↓mCallF, ↓mCallN, Hd.isNm, nmu, List.cons_append, List.nil_append, List.length_cons, List.length_nil, List.replicate_succ, List.replicate_zero, List.getElem?_cons_zero, List.getElem?_cons_succ, List.set_cons_zero, List.set_cons_succ, List.any_nil, List.any_cons, Nat.reduceAdd, Nat.reduceSub, Nat.reduceBEq, if_true, if_false, Bool.false_eq_true, ↓reduceIte, Option.bind_some, Option.map_some, Bool.or_self, Bool.false_or, Bool.or_false, Bool.true_or, Bool.or_true, List.contains_nil, List.contains_cons, Bool.and_self, Bool.not_false, Bool.not_true, Bool.true_and, Bool.and_true, Bool.false_and, decide_true, decide_false, lendOut, wipeG, mSl, dSome, hs, in_two]
      rfl
  rw [this, List.filter_map, List.map_map, List.map_map]
  rfl
theorem names_ok {as : List Atm} (h : as.length ≤ 100) : f_x_law_names [.lst (as.map Atm.d)] = some (.ret (.lst ((nms as).map .int)) []) := by
  have hi : i_x_law_names_3 [.im (.lst (as.map Atm.d)), .un, .un] = some (.ok (rngD 0 10) [.im (.lst (as.map Atm.d)), .un, .un]) := by
    unfold i_x_law_names_3 mSrc
    simp (config := { decide := false }) only [↓runDef, gOf, slotOf, endMs, ↓seqE, ↓bindE, bindO_ok, bindO_ex, bindO_none, seqO_nx, seqO_rt, seqO_rn, seqO_bk, seqO_ct, seqO_ex, seqO_none, ↓retE, ↓failE, ↓ifE, ↓andE, ↓andK_t, ↓andK_f, ↓orE, ↓orK_t, ↓orK_f, ↓andBE, ↓andBK_t, ↓andBK_f, ↓orBE, ↓orBK_t, ↓orBK_f, ↓chE, ↓chK_t, ↓chK_f, ifO_t, ifO_f, ↓mVa, ↓mFz, ↓mNm, ↓mFrz, ↓mOp2, ↓mOp1, ↓f2E, ↓f1E, ↓fsE, ansO_some, ansO_none, rdAll, Hd.rd, D.flat, ↓mCons, ↓mCall, ↓mTup, ↓mLst, ↓mFrzs, dBool, dadd, dsub, dgt, dMax2, dMin2, ↓mSet, ↓mSetN, ↓mSetIx, mKindN, isKindN, mWr, beq_self_eq_true, Sl.cell, Sl.put, ↓mFrzM, argDs, argD, apartB, putMu, ↓mCallF, ↓mCallN, Hd.isNm, nmu, List.cons_append, List.nil_append, List.length_cons, List.length_nil, List.replicate_succ, List.replicate_zero, List.getElem?_cons_zero, List.getElem?_cons_succ, List.set_cons_zero, List.set_cons_succ, List.any_nil, List.any_cons, Nat.reduceAdd, Nat.reduceSub, Nat.reduceBEq, if_true, if_false, Bool.false_eq_true, ↓reduceIte, Option.bind_some, Option.map_some, Bool.or_self, Bool.false_or, Bool.or_false, Bool.true_or, Bool.or_true, List.contains_nil, List.contains_cons, Bool.and_self, Bool.not_false, Bool.not_true, Bool.true_and, Bool.and_true, Bool.false_and, decide_true, decide_false, rng1]
    rfl
  have hc : mLc none i_x_law_names_3 [1] (tgNm 1) c_x_law_names_4 (mFz 1) [.im (.lst (as.map Atm.d)), .un, .un] = some (.ok (.lst ((nms as).map .int)) [.im (.lst (as.map Atm.d)), .un, .un]) := by
    have := mLc_run (T := tgNm 1) (c := c_x_law_names_4) (e := mFz 1) (l := none) (it := i_x_law_names_3) (vs := [1]) (g := [.im (.lst (as.map Atm.d)), .un, .un]) (ds := rngD 0 10)
      (fun d => match d with | .int n => hasV as n | _ => false) (fun d => d) hi rfl (by simp [rngD]) rfl rfl fun d hd => by
        obtain ⟨i, hi, rfl⟩ := List.mem_map.mp hd
        refine ⟨_, rfl, ?_, fun _ => rfl, rfl⟩
        unfold c_x_law_names_4
        have hb := ne_ints ((as.filter fun a => decide (a.v = 0 + (i : Int)) || decide (a.w = 0 + (i : Int))).map fun _ => (1 : Int))
        rw [has_eq] at hb
        have h0 : (0 : Nat) ≤ 1000000 := by decide
        simp (config := { decide := false }) only [↓runDef, gOf, slotOf, endMs, ↓seqE, ↓bindE, bindO_ok, bindO_ex, bindO_none, seqO_nx, seqO_rt, seqO_rn, seqO_bk, seqO_ct, seqO_ex, seqO_none, ↓retE, ↓failE, ↓ifE, ↓andE, ↓andK_t, ↓andK_f, ↓orE, ↓orK_t, ↓orK_f, ↓andBE, ↓andBK_t, ↓andBK_f, ↓orBE, ↓orBK_t, ↓orBK_f, ↓chE, ↓chK_t, ↓chK_f, ifO_t, ifO_f, ↓mVa, ↓mFz, ↓mNm, ↓mFrz, ↓mOp2, ↓mOp1, ↓f2E, ↓f1E, ↓fsE, ansO_some, ansO_none, rdAll, Hd.rd, D.flat, ↓mCons, ↓mCall, ↓mTup, ↓mLst, ↓mFrzs, dBool, dadd, dsub, dgt, dMax2, dMin2, ↓mSet, ↓mSetN, ↓mSetIx, mKindN, isKindN, mWr, beq_self_eq_true, Sl.cell, Sl.put, ↓mFrzM, argDs, argD, apartB, putMu, ↓mCallF, ↓mCallN, Hd.isNm, nmu, List.cons_append, List.nil_append, List.length_cons, List.length_nil, List.replicate_succ, List.replicate_zero, List.getElem?_cons_zero, List.getElem?_cons_succ, List.set_cons_zero, List.set_cons_succ, List.any_nil, List.any_cons, Nat.reduceAdd, Nat.reduceSub, Nat.reduceBEq, if_true, if_false, Bool.false_eq_true, ↓reduceIte, Option.bind_some, Option.map_some, Bool.or_self, Bool.false_or, Bool.or_false, Bool.true_or, Bool.or_true, List.contains_nil, List.contains_cons, Bool.and_self, Bool.not_false, Bool.not_true, Bool.true_and, Bool.and_true, Bool.false_and, decide_true, decide_false, lendOut, wipeG, inner_nm h]
        simp only [h0, if_true, ↓retE, bindO_ok]
        simp (config := { decide := false }) only [↓runDef, gOf, slotOf, endMs, ↓seqE, ↓bindE, bindO_ok, bindO_ex, bindO_none, seqO_nx, seqO_rt, seqO_rn, seqO_bk, seqO_ct, seqO_ex, seqO_none, ↓retE, ↓failE, ↓ifE, ↓andE, ↓andK_t, ↓andK_f, ↓orE, ↓orK_t, ↓orK_f, ↓andBE, ↓andBK_t, ↓andBK_f, ↓orBE, ↓orBK_t, ↓orBK_f, ↓chE, ↓chK_t, ↓chK_f, ifO_t, ifO_f, ↓mVa, ↓mFz, ↓mNm, ↓mFrz, ↓mOp2, ↓mOp1, ↓f2E, ↓f1E, ↓fsE, ansO_some, ansO_none, rdAll, Hd.rd, D.flat, ↓mCons, ↓mCall, ↓mTup, ↓mLst, ↓mFrzs, dBool, dadd, dsub, dgt, dMax2, dMin2, ↓mSet, ↓mSetN, ↓mSetIx, mKindN, isKindN, mWr, beq_self_eq_true, Sl.cell, Sl.put, ↓mFrzM, argDs, argD, apartB, putMu, ↓mCallF, ↓mCallN, Hd.isNm, nmu, List.cons_append, List.nil_append, List.length_cons, List.length_nil, List.replicate_succ, List.replicate_zero, List.getElem?_cons_zero, List.getElem?_cons_succ, List.set_cons_zero, List.set_cons_succ, List.any_nil, List.any_cons, Nat.reduceAdd, Nat.reduceSub, Nat.reduceBEq, if_true, if_false, Bool.false_eq_true, ↓reduceIte, Option.bind_some, Option.map_some, Bool.or_self, Bool.false_or, Bool.or_false, Bool.true_or, Bool.or_true, List.contains_nil, List.contains_cons, Bool.and_self, Bool.not_false, Bool.not_true, Bool.true_and, Bool.and_true, Bool.false_and, decide_true, decide_false, hb]
    rw [this]
    have e : rngD 0 10 = ((List.range 10).map fun i : Nat => (i : Int)).map .int := by
      unfold rngD
      rw [List.map_map]
      refine List.map_congr_left fun i _ => ?_
      simp
    rw [e, List.filter_map, List.map_map]
    rfl
  unfold f_x_law_names m_x_law_names
  simp (config := { decide := false }) only [↓runDef, gOf, slotOf, endMs, ↓seqE, ↓bindE, bindO_ok, bindO_ex, bindO_none, seqO_nx, seqO_rt, seqO_rn, seqO_bk, seqO_ct, seqO_ex, seqO_none, ↓retE, ↓failE, ↓ifE, ↓andE, ↓andK_t, ↓andK_f, ↓orE, ↓orK_t, ↓orK_f, ↓andBE, ↓andBK_t, ↓andBK_f, ↓orBE, ↓orBK_t, ↓orBK_f, ↓chE, ↓chK_t, ↓chK_f, ifO_t, ifO_f, ↓mVa, ↓mFz, ↓mNm, ↓mFrz, ↓mOp2, ↓mOp1, ↓f2E, ↓f1E, ↓fsE, ansO_some, ansO_none, rdAll, Hd.rd, D.flat, ↓mCons, ↓mCall, ↓mTup, ↓mLst, ↓mFrzs, dBool, dadd, dsub, dgt, dMax2, dMin2, ↓mSet, ↓mSetN, ↓mSetIx, mKindN, isKindN, mWr, beq_self_eq_true, Sl.cell, Sl.put, ↓mFrzM, argDs, argD, apartB, putMu, ↓mCallF, ↓mCallN, Hd.isNm, nmu, List.cons_append, List.nil_append, List.length_cons, List.length_nil, List.replicate_succ, List.replicate_zero, List.getElem?_cons_zero, List.getElem?_cons_succ, List.set_cons_zero, List.set_cons_succ, List.any_nil, List.any_cons, Nat.reduceAdd, Nat.reduceSub, Nat.reduceBEq, if_true, if_false, Bool.false_eq_true, ↓reduceIte, Option.bind_some, Option.map_some, Bool.or_self, Bool.false_or, Bool.or_false, Bool.true_or, Bool.or_true, List.contains_nil, List.contains_cons, Bool.and_self, Bool.not_false, Bool.not_true, Bool.true_and, Bool.and_true, Bool.false_and, decide_true, decide_false, hc]
theorem some_step {m : Int} {a b c : Int} {ps : List Int} {kz : Str} {found : List Atm} {s5 s6 : Sl} (hp : ps ≠ []) (hpl : ps.length ≤ 10) (hpv : ∀ v ∈ ps, 0 ≤ v ∧ v ≤ 9) (hk : kz.cps.toList ≠ []) (hkl : kz.cps.toList.length ≤ 10) (hkv : ∀ k ∈ kz.cps.toList, k = 65 ∨ k = 66 ∨ k = 67) (hf : ∀ x ∈ found, x.ok) (hfl : found.length ≤ 4) :
    ∃ a' b' c' x, Atm.ok x ∧ b_x_law_some_2 [.mb (.lst [.int a, .int b, .int c]), .im (.int m), .im (.tup (ps.map .int)), .im (.str kz), .ow (.lst (found.map Atm.d)), s5, s6] = some (.ok .nx [.mb (.lst [.int a', .int b', .int c']), .im (.int m), .im (.tup (ps.map .int)), .im (.str kz), .ow (.lst ((found ++ [x]).map Atm.d)), s5, .im x.d]) := by
  obtain ⟨k, hk1, a1, b1, c1, e1⟩ := choose_sz (z := kz) a b c hk (by omega)
  obtain ⟨v', hv', a2, b2, c2, e2⟩ := choose_tz (xs := ps.map .int) a1 b1 c1 (by simpa using hp) (by simp; omega)
  obtain ⟨v, hv, rfl⟩ := List.mem_map.mp hv'
  obtain ⟨w', hw', a3, b3, c3, e3⟩ := choose_tz (xs := ps.map .int) a2 b2 c2 (by simpa using hp) (by simp; omega)
  obtain ⟨w, hw, rfl⟩ := List.mem_map.mp hw'
  have ok1 : Atm.ok ⟨k, v, w⟩ := ⟨hkv k hk1, (hpv v hv).1, (hpv v hv).2, (hpv w hw).1, (hpv w hw).2⟩
  have ed : D.tup [.str ⟨#[k]⟩, .int v, .int w] = Atm.d ⟨k, v, w⟩ := rfl
  have nn := ne_ats hf
  have ap : ∀ x : Atm, fAppend (.lst (found.map Atm.d)) [x.d] = some (.non, .lst ((found ++ [x]).map Atm.d)) := fun x => app_ok (by omega)
  unfold b_x_law_some_2
  by_cases hn : found = []
  · subst hn
    have nn : dNe (.lst (([] : List Atm).map Atm.d)) (.lst []) = some (.bl false) := nn
    refine ⟨a3, b3, c3, ⟨k, v, w⟩, ok1, ?_⟩
    simp (config := { decide := false }) only [↓runDef, gOf, slotOf, endMs, ↓seqE, ↓bindE, bindO_ok, bindO_ex, bindO_none, seqO_nx, seqO_rt, seqO_rn, seqO_bk, seqO_ct, seqO_ex, seqO_none, ↓retE, ↓failE, ↓ifE, ↓andE, ↓andK_t, ↓andK_f, ↓orE, ↓orK_t, ↓orK_f, ↓andBE, ↓andBK_t, ↓andBK_f, ↓orBE, ↓orBK_t, ↓orBK_f, ↓chE, ↓chK_t, ↓chK_f, ifO_t, ifO_f, ↓mVa, ↓mFz, ↓mNm, ↓mFrz, ↓mOp2, ↓mOp1, ↓f2E, ↓f1E, ↓fsE, ansO_some, ansO_none, rdAll, Hd.rd, D.flat, ↓mCons, ↓mCall, ↓mTup, ↓mLst, ↓mFrzs, dBool, dadd, dsub, dgt, dMax2, dMin2, ↓mSet, ↓mSetN, ↓mSetIx, mKindN, isKindN, mWr, beq_self_eq_true, Sl.cell, Sl.put, ↓mFrzM, argDs, argD, apartB, putMu, ↓mCallF, ↓mCallN, Hd.isNm, nmu, List.cons_append, List.nil_append, List.length_cons, List.length_nil, List.replicate_succ, List.replicate_zero, List.getElem?_cons_zero, List.getElem?_cons_succ, List.set_cons_zero, List.set_cons_succ, List.any_nil, List.any_cons, Nat.reduceAdd, Nat.reduceSub, Nat.reduceBEq, if_true, if_false, Bool.false_eq_true, ↓reduceIte, Option.bind_some, Option.map_some, Bool.or_self, Bool.false_or, Bool.or_false, Bool.true_or, Bool.or_true, List.contains_nil, List.contains_cons, Bool.and_self, Bool.not_false, Bool.not_true, Bool.true_and, Bool.and_true, Bool.false_and, decide_true, decide_false, e1, e2, e3, three_lit, zero_lit, ed, nn, mWm, ap]
  · obtain ⟨f, l, rfl⟩ : ∃ f l, found = f ++ [l] := ⟨_, _, (List.dropLast_concat_getLast hn).symm⟩
    have nn : dNe (.lst ((f ++ [l]).map Atm.d)) (.lst []) = some (.bl true) := by rw [nn]; simp
    have okl := hf l (by simp)
    obtain ⟨r5, a4, b4, c4, e4, _, _⟩ := draw1z a3 b3 c3 5 (by decide) (by decide)
    by_cases h5 : r5 = 0
    · obtain ⟨y', hy', a5, b5, c5, e5⟩ := choose_lz (xs := (f ++ [l]).map Atm.d) a4 b4 c4 (by simp) (by simp at hfl ⊢; omega)
      obtain ⟨y, hy, rfl⟩ := List.mem_map.mp hy'
      obtain ⟨r4, a6, b6, c6, e6, _, _⟩ := draw1z a5 b5 c5 4 (by decide) (by decide)
      have oky := hf y hy
      by_cases h4 : r4 = 0
      · refine ⟨a6, b6, c6, ⟨y.k, l.w, y.w⟩, ⟨oky.hk, okl.w0, okl.w1, oky.w0, oky.w1⟩, ?_⟩
        have ed2 : D.tup [.str ⟨#[y.k]⟩, .int l.w, .int y.w] = Atm.d ⟨y.k, l.w, y.w⟩ := rfl
        simp (config := { decide := false }) only [↓runDef, gOf, slotOf, endMs, ↓seqE, ↓bindE, bindO_ok, bindO_ex, bindO_none, seqO_nx, seqO_rt, seqO_rn, seqO_bk, seqO_ct, seqO_ex, seqO_none, ↓retE, ↓failE, ↓ifE, ↓andE, ↓andK_t, ↓andK_f, ↓orE, ↓orK_t, ↓orK_f, ↓andBE, ↓andBK_t, ↓andBK_f, ↓orBE, ↓orBK_t, ↓orBK_f, ↓chE, ↓chK_t, ↓chK_f, ifO_t, ifO_f, ↓mVa, ↓mFz, ↓mNm, ↓mFrz, ↓mOp2, ↓mOp1, ↓f2E, ↓f1E, ↓fsE, ansO_some, ansO_none, rdAll, Hd.rd, D.flat, ↓mCons, ↓mCall, ↓mTup, ↓mLst, ↓mFrzs, dBool, dadd, dsub, dgt, dMax2, dMin2, ↓mSet, ↓mSetN, ↓mSetIx, mKindN, isKindN, mWr, beq_self_eq_true, Sl.cell, Sl.put, ↓mFrzM, argDs, argD, apartB, putMu, ↓mCallF, ↓mCallN, Hd.isNm, nmu, List.cons_append, List.nil_append, List.length_cons, List.length_nil, List.replicate_succ, List.replicate_zero, List.getElem?_cons_zero, List.getElem?_cons_succ, List.set_cons_zero, List.set_cons_succ, List.any_nil, List.any_cons, Nat.reduceAdd, Nat.reduceSub, Nat.reduceBEq, if_true, if_false, Bool.false_eq_true, ↓reduceIte, Option.bind_some, Option.map_some, Bool.or_self, Bool.false_or, Bool.or_false, Bool.true_or, Bool.or_true, List.contains_nil, List.contains_cons, Bool.and_self, Bool.not_false, Bool.not_true, Bool.true_and, Bool.and_true, Bool.false_and, decide_true, decide_false, e1, e2, e3, e4, e5, e6, three_lit, zero_lit, ed, ed2, nn, Sp.eq_i, h5, h4, adx0, adx2, last_ix, neg_one, mWm, ap]
      · refine ⟨a6, b6, c6, y, oky, ?_⟩
        simp (config := { decide := false }) only [↓runDef, gOf, slotOf, endMs, ↓seqE, ↓bindE, bindO_ok, bindO_ex, bindO_none, seqO_nx, seqO_rt, seqO_rn, seqO_bk, seqO_ct, seqO_ex, seqO_none, ↓retE, ↓failE, ↓ifE, ↓andE, ↓andK_t, ↓andK_f, ↓orE, ↓orK_t, ↓orK_f, ↓andBE, ↓andBK_t, ↓andBK_f, ↓orBE, ↓orBK_t, ↓orBK_f, ↓chE, ↓chK_t, ↓chK_f, ifO_t, ifO_f, ↓mVa, ↓mFz, ↓mNm, ↓mFrz, ↓mOp2, ↓mOp1, ↓f2E, ↓f1E, ↓fsE, ansO_some, ansO_none, rdAll, Hd.rd, D.flat, ↓mCons, ↓mCall, ↓mTup, ↓mLst, ↓mFrzs, dBool, dadd, dsub, dgt, dMax2, dMin2, ↓mSet, ↓mSetN, ↓mSetIx, mKindN, isKindN, mWr, beq_self_eq_true, Sl.cell, Sl.put, ↓mFrzM, argDs, argD, apartB, putMu, ↓mCallF, ↓mCallN, Hd.isNm, nmu, List.cons_append, List.nil_append, List.length_cons, List.length_nil, List.replicate_succ, List.replicate_zero, List.getElem?_cons_zero, List.getElem?_cons_succ, List.set_cons_zero, List.set_cons_succ, List.any_nil, List.any_cons, Nat.reduceAdd, Nat.reduceSub, Nat.reduceBEq, if_true, if_false, Bool.false_eq_true, ↓reduceIte, Option.bind_some, Option.map_some, Bool.or_self, Bool.false_or, Bool.or_false, Bool.true_or, Bool.or_true, List.contains_nil, List.contains_cons, Bool.and_self, Bool.not_false, Bool.not_true, Bool.true_and, Bool.and_true, Bool.false_and, decide_true, decide_false, e1, e2, e3, e4, e5, e6, three_lit, zero_lit, ed, nn, Sp.eq_i, h5, h4, mWm, ap]
    · obtain ⟨r4, a6, b6, c6, e6, _, _⟩ := draw1z a4 b4 c4 4 (by decide) (by decide)
      by_cases h4 : r4 = 0
      · refine ⟨a6, b6, c6, ⟨k, l.w, w⟩, ⟨ok1.hk, okl.w0, okl.w1, ok1.w0, ok1.w1⟩, ?_⟩
        have ed2 : D.tup [.str ⟨#[k]⟩, .int l.w, .int w] = Atm.d ⟨k, l.w, w⟩ := rfl
        simp (config := { decide := false }) only [↓runDef, gOf, slotOf, endMs, ↓seqE, ↓bindE, bindO_ok, bindO_ex, bindO_none, seqO_nx, seqO_rt, seqO_rn, seqO_bk, seqO_ct, seqO_ex, seqO_none, ↓retE, ↓failE, ↓ifE, ↓andE, ↓andK_t, ↓andK_f, ↓orE, ↓orK_t, ↓orK_f, ↓andBE, ↓andBK_t, ↓andBK_f, ↓orBE, ↓orBK_t, ↓orBK_f, ↓chE, ↓chK_t, ↓chK_f, ifO_t, ifO_f, ↓mVa, ↓mFz, ↓mNm, ↓mFrz, ↓mOp2, ↓mOp1, ↓f2E, ↓f1E, ↓fsE, ansO_some, ansO_none, rdAll, Hd.rd, D.flat, ↓mCons, ↓mCall, ↓mTup, ↓mLst, ↓mFrzs, dBool, dadd, dsub, dgt, dMax2, dMin2, ↓mSet, ↓mSetN, ↓mSetIx, mKindN, isKindN, mWr, beq_self_eq_true, Sl.cell, Sl.put, ↓mFrzM, argDs, argD, apartB, putMu, ↓mCallF, ↓mCallN, Hd.isNm, nmu, List.cons_append, List.nil_append, List.length_cons, List.length_nil, List.replicate_succ, List.replicate_zero, List.getElem?_cons_zero, List.getElem?_cons_succ, List.set_cons_zero, List.set_cons_succ, List.any_nil, List.any_cons, Nat.reduceAdd, Nat.reduceSub, Nat.reduceBEq, if_true, if_false, Bool.false_eq_true, ↓reduceIte, Option.bind_some, Option.map_some, Bool.or_self, Bool.false_or, Bool.or_false, Bool.true_or, Bool.or_true, List.contains_nil, List.contains_cons, Bool.and_self, Bool.not_false, Bool.not_true, Bool.true_and, Bool.and_true, Bool.false_and, decide_true, decide_false, e1, e2, e3, e4, e6, three_lit, zero_lit, ed, ed2, nn, Sp.eq_i, h5, h4, adx0, adx2, last_ix, neg_one, mWm, ap]
      · refine ⟨a6, b6, c6, ⟨k, v, w⟩, ok1, ?_⟩
        simp (config := { decide := false }) only [↓runDef, gOf, slotOf, endMs, ↓seqE, ↓bindE, bindO_ok, bindO_ex, bindO_none, seqO_nx, seqO_rt, seqO_rn, seqO_bk, seqO_ct, seqO_ex, seqO_none, ↓retE, ↓failE, ↓ifE, ↓andE, ↓andK_t, ↓andK_f, ↓orE, ↓orK_t, ↓orK_f, ↓andBE, ↓andBK_t, ↓andBK_f, ↓orBE, ↓orBK_t, ↓orBK_f, ↓chE, ↓chK_t, ↓chK_f, ifO_t, ifO_f, ↓mVa, ↓mFz, ↓mNm, ↓mFrz, ↓mOp2, ↓mOp1, ↓f2E, ↓f1E, ↓fsE, ansO_some, ansO_none, rdAll, Hd.rd, D.flat, ↓mCons, ↓mCall, ↓mTup, ↓mLst, ↓mFrzs, dBool, dadd, dsub, dgt, dMax2, dMin2, ↓mSet, ↓mSetN, ↓mSetIx, mKindN, isKindN, mWr, beq_self_eq_true, Sl.cell, Sl.put, ↓mFrzM, argDs, argD, apartB, putMu, ↓mCallF, ↓mCallN, Hd.isNm, nmu, List.cons_append, List.nil_append, List.length_cons, List.length_nil, List.replicate_succ, List.replicate_zero, List.getElem?_cons_zero, List.getElem?_cons_succ, List.set_cons_zero, List.set_cons_succ, List.any_nil, List.any_cons, Nat.reduceAdd, Nat.reduceSub, Nat.reduceBEq, if_true, if_false, Bool.false_eq_true, ↓reduceIte, Option.bind_some, Option.map_some, Bool.or_self, Bool.false_or, Bool.or_false, Bool.true_or, Bool.or_true, List.contains_nil, List.contains_cons, Bool.and_self, Bool.not_false, Bool.not_true, Bool.true_and, Bool.and_true, Bool.false_and, decide_true, decide_false, e1, e2, e3, e4, e6, three_lit, zero_lit, ed, nn, Sp.eq_i, h5, h4, mWm, ap]
theorem some_ok {m : Int} (hm : 1 ≤ m ∧ m ≤ 4) (a b c : Int) : ∃ a' b' c', ∃ l : List Atm, (∀ x ∈ l, x.ok) ∧ 1 ≤ l.length ∧ l.length ≤ m.toNat ∧ f_x_law_some [.lst [.int a, .int b, .int c], .int m] = some (.ret (.lst (l.map Atm.d)) [.lst [.int a', .int b', .int c']]) := by
  obtain ⟨p', hp', a1, b1, c1, e1⟩ := choose_lz (xs := pools.map fun ps => D.tup (ps.map .int)) a b c (by simp [pools]) (by simp [pools])
  obtain ⟨ps, hps, rfl⟩ := List.mem_map.mp hp'
  obtain ⟨k', hk', a2, b2, c2, e2⟩ := choose_lz (xs := kindsL.map D.str) a1 b1 c1 (by simp [kindsL]) (by simp [kindsL])
  obtain ⟨kz, hkz, rfl⟩ := List.mem_map.mp hk'
  obtain ⟨r, a3, b3, c3, e3, r0, r1⟩ := draw1z a2 b2 c2 m (by omega) (by omega)
  obtain ⟨q1, q2, q3⟩ := pools_ok ps hps
  obtain ⟨t1, t2, t3⟩ := kinds_ok kz hkz
  have hn : (1 + r).toNat ≤ 4 := by omega
  have hi : i_x_law_some_1 [.mb (.lst [.int a2, .int b2, .int c2]), .im (.int m), .im (.tup (ps.map .int)), .im (.str kz), .ow (.lst []), .un, .un] = some (.ok (rngD 0 (1 + r).toNat) [.mb (.lst [.int a3, .int b3, .int c3]), .im (.int m), .im (.tup (ps.map .int)), .im (.str kz), .ow (.lst []), .un, .un]) := by
    have hr : rng1 [.int (1 + r)] = some (rngD 0 (1 + r).toNat) := by
      exact rng_small (by omega) (by omega)
    unfold i_x_law_some_1 mSrc
    simp (config := { decide := false }) only [↓runDef, gOf, slotOf, endMs, ↓seqE, ↓bindE, bindO_ok, bindO_ex, bindO_none, seqO_nx, seqO_rt, seqO_rn, seqO_bk, seqO_ct, seqO_ex, seqO_none, ↓retE, ↓failE, ↓ifE, ↓andE, ↓andK_t, ↓andK_f, ↓orE, ↓orK_t, ↓orK_f, ↓andBE, ↓andBK_t, ↓andBK_f, ↓orBE, ↓orBK_t, ↓orBK_f, ↓chE, ↓chK_t, ↓chK_f, ifO_t, ifO_f, ↓mVa, ↓mFz, ↓mNm, ↓mFrz, ↓mOp2, ↓mOp1, ↓f2E, ↓f1E, ↓fsE, ansO_some, ansO_none, rdAll, Hd.rd, D.flat, ↓mCons, ↓mCall, ↓mTup, ↓mLst, ↓mFrzs, dBool, dadd, dsub, dgt, dMax2, dMin2, ↓mSet, ↓mSetN, ↓mSetIx, mKindN, isKindN, mWr, beq_self_eq_true, Sl.cell, Sl.put, ↓mFrzM, argDs, argD, apartB, putMu, ↓mCallF, ↓mCallN, Hd.isNm, nmu, List.cons_append, List.nil_append, List.length_cons, List.length_nil, List.replicate_succ, List.replicate_zero, List.getElem?_cons_zero, List.getElem?_cons_succ, List.set_cons_zero, List.set_cons_succ, List.any_nil, List.any_cons, Nat.reduceAdd, Nat.reduceSub, Nat.reduceBEq, if_true, if_false, Bool.false_eq_true, ↓reduceIte, Option.bind_some, Option.map_some, Bool.or_self, Bool.false_or, Bool.or_false, Bool.true_or, Bool.or_true, List.contains_nil, List.contains_cons, Bool.and_self, Bool.not_false, Bool.not_true, Bool.true_and, Bool.and_true, Bool.false_and, decide_true, decide_false, e3, hr]
  have hloop : ∃ g', forL (tgNm 5) b_x_law_some_2 (rngD 0 (1 + r).toNat) [.mb (.lst [.int a3, .int b3, .int c3]), .im (.int m), .im (.tup (ps.map .int)), .im (.str kz), .ow (.lst []), .un, .un] = some (.ok .nx g') ∧
      ∃ (n : Nat) (found : List Atm) (x y z : Int) (s5 s6 : Sl), ([] : List D).length + n = (1 + r).toNat ∧ found.length = n ∧ (∀ x ∈ found, Atm.ok x) ∧ g' = [.mb (.lst [.int x, .int y, .int z]), .im (.int m), .im (.tup (ps.map .int)), .im (.str kz), .ow (.lst (found.map Atm.d)), s5, s6] := by
    refine forL_run (fun r' g => ∃ (n : Nat) (found : List Atm) (x y z : Int) (s5 s6 : Sl), r'.length + n = (1 + r).toNat ∧ found.length = n ∧ (∀ x ∈ found, Atm.ok x) ∧ g = [.mb (.lst [.int x, .int y, .int z]), .im (.int m), .im (.tup (ps.map .int)), .im (.str kz), .ow (.lst (found.map Atm.d)), s5, s6])
      ⟨0, [], a3, b3, c3, .un, .un, by simp [rngD], rfl, fun x hx => (nomatch hx), rfl⟩ fun d r' g ⟨n, found, x, y, z, s5, s6, k1, k2, k3, k4⟩ => ?_
    subst k4
    have k1' : (r'.length + 1) + n = (1 + r).toNat := k1
    obtain ⟨x', y', z', at', oka, ea⟩ := some_step (m := m) (a := x) (b := y) (c := z) (ps := ps) (kz := kz) (found := found) (s5 := .im d) (s6 := s6) q1 q2 q3 t1 t2 t3 k3 (by omega)
    refine ⟨_, _, rfl, ea, n + 1, found ++ [at'], x', y', z', _, _, by omega, by simp [k2], fun u hu => ?_, rfl⟩
    rcases List.mem_append.mp hu with hu | hu
    · exact k3 u hu
    · rw [List.mem_singleton.mp hu]; exact oka
  obtain ⟨g', h1, n, found, x, y, z, s5, s6, k1, k2, k3, rfl⟩ := hloop
  have hfor : mFor none i_x_law_some_1 (tgNm 5) b_x_law_some_2 [.mb (.lst [.int a2, .int b2, .int c2]), .im (.int m), .im (.tup (ps.map .int)), .im (.str kz), .ow (.lst []), .un, .un] = some (.ok .nx [.mb (.lst [.int x, .int y, .int z]), .im (.int m), .im (.tup (ps.map .int)), .im (.str kz), .ow (.lst (found.map Atm.d)), s5, s6]) := by
    unfold mFor
    rw [bindE, hi, bindO_ok]
    show mBack none _ (forL (tgNm 5) b_x_law_some_2 (rngD 0 (1 + r).toNat) [.mb (.lst [.int a3, .int b3, .int c3]), .im (.int m), .im (.tup (ps.map .int)), .im (.str kz), .ow (.lst []), .un, .un]) = _
    rw [back_none, h1]
  have k1 : 0 + n = (1 + r).toNat := k1
  refine ⟨x, y, z, found, k3, by omega, by omega, ?_⟩
  have e1 : f_x_law_choose [.lst [.int a, .int b, .int c], .lst [.tup [.int 0], .tup [.int 0, .int 1], .tup [.int 0, .int 1, .int 2], .tup [.int 9, .int 4], .tup [.int 3, .int 0, .int 7], .tup [.int 0, .int 1, .int 2, .int 3], .tup [.int 2, .int 3, .int 5, .int 8, .int 9], .tup [.int 0, .int 1, .int 2, .int 3, .int 4, .int 5, .int 6, .int 7, .int 8, .int 9]]] = some (.ret (.tup (ps.map .int)) [.lst [.int a1, .int b1, .int c1]]) := e1
  have e2 : f_x_law_choose [.lst [.int a1, .int b1, .int c1], .lst [.str "A", .str "A", .str "AB", .str "CAB", .str "CB"]] = some (.ret (.str kz) [.lst [.int a2, .int b2, .int c2]]) := e2
  have l4 : (4 : Nat) ≤ 1000000 := by decide
  have l5 : (5 : Nat) ≤ 1000000 := by decide
  have l8 : (8 : Nat) ≤ 1000000 := by decide
  have l10 : (10 : Nat) ≤ 1000000 := by decide
  unfold f_x_law_some m_x_law_some mPar
  simp (config := { decide := false }) only [↓runDef, gOf, slotOf, endMs, ↓seqE, ↓bindE, bindO_ok, bindO_ex, bindO_none, seqO_nx, seqO_rt, seqO_rn, seqO_bk, seqO_ct, seqO_ex, seqO_none, ↓retE, ↓failE, ↓ifE, ↓andE, ↓andK_t, ↓andK_f, ↓orE, ↓orK_t, ↓orK_f, ↓andBE, ↓andBK_t, ↓andBK_f, ↓orBE, ↓orBK_t, ↓orBK_f, ↓chE, ↓chK_t, ↓chK_f, ifO_t, ifO_f, ↓mVa, ↓mFz, ↓mNm, ↓mFrz, ↓mOp2, ↓mOp1, ↓f2E, ↓f1E, ↓fsE, ansO_some, ansO_none, rdAll, Hd.rd, D.flat, ↓mCons, ↓mCall, ↓mTup, ↓mLst, ↓mFrzs, dBool, dadd, dsub, dgt, dMax2, dMin2, ↓mSet, ↓mSetN, ↓mSetIx, mKindN, isKindN, mWr, beq_self_eq_true, Sl.cell, Sl.put, ↓mFrzM, argDs, argD, apartB, putMu, ↓mCallF, ↓mCallN, Hd.isNm, nmu, List.cons_append, List.nil_append, List.length_cons, List.length_nil, List.replicate_succ, List.replicate_zero, List.getElem?_cons_zero, List.getElem?_cons_succ, List.set_cons_zero, List.set_cons_succ, List.any_nil, List.any_cons, Nat.reduceAdd, Nat.reduceSub, Nat.reduceBEq, if_true, if_false, Bool.false_eq_true, ↓reduceIte, Option.bind_some, Option.map_some, Bool.or_self, Bool.false_or, Bool.or_false, Bool.true_or, Bool.or_true, List.contains_nil, List.contains_cons, Bool.and_self, Bool.not_false, Bool.not_true, Bool.true_and, Bool.and_true, Bool.false_and, decide_true, decide_false, zero_lit, one_lit, two_lit, three_lit, l4, l5, l8, l10, e1, e2, hfor]
/-- up to m drawn atoms -/
theorem some_n {m : Int} (hm : 1 ≤ m ∧ m ≤ 4) (s : So) : ∃ (s' : So) (l : List Atm), (∀ x ∈ l, x.ok) ∧ 1 ≤ l.length ∧ l.length ≤ m.toNat ∧ f_x_law_some [so s, .int m] = some (.ret (.lst (l.map Atm.d)) [so s']) := by
  obtain ⟨a, b, c, l, h1, h2, h3, e⟩ := some_ok hm s.a s.b s.c
  exact ⟨⟨a, b, c⟩, l, h1, h2, h3, e⟩
end Cq.S6

set_option Elab.async false
set_option linter.all false
set_option maxRecDepth 100000
set_option maxHeartbeats 1000000
namespace Cq.S6
open PySem PyProof.Rows L2 Cq Cq.Sp
theorem set_at {as : List Atm} {x : Atm} {m : Int} {i : Nat} (hm : m = (i : Int)) (h : i < as.length) : fSetL (adl as) [.int m, x.d] = some (.non, adl (as.set i x)) := by
  subst hm
  have e : ixN (as.map Atm.d).length (i : Int) = some i := by
    unfold ixN
    simp [h]
  simp only [adl, fSetL, e, List.map_set]
theorem get_at {as : List Atm} {m : Int} {i : Nat} {a : Atm} (hm : m = (i : Int)) (h : as[i]? = some a) : dIx (adl as) (.int m) = some a.d := lix hm (by rw [List.getElem?_map, h]; rfl)
theorem len_adl {as : List Atm} : dLen [adl as] = some (.int (as.length : Nat)) := by simp [adl, dLen]
theorem at1 {a : Atm} : dIx a.d (.int 1) = some (.int a.v) := tix1
def mrg (y z x : Int) : Int := if x = y then z else x
def Atm.mrg (y z : Int) (a : Atm) : Atm := ⟨a.k, S6.mrg y z a.v, S6.mrg y z a.w⟩
theorem mrg_ok {y z : Int} (hz : 0 ≤ z ∧ z ≤ 9) {a : Atm} (h : a.ok) : (Atm.mrg y z a).ok := by
  have : ∀ x : Int, 0 ≤ x → x ≤ 9 → 0 ≤ mrg y z x ∧ mrg y z x ≤ 9 := fun x h0 h9 => by
    unfold mrg; split <;> omega
  exact ⟨h.hk, (this _ h.v0 h.v1).1, (this _ h.v0 h.v1).2, (this _ h.w0 h.w1).1, (this _ h.w0 h.w1).2⟩
theorem near3 {s0 s1 s2 s3 s4 s5 s6 s11 : Sl} {y z : Int} {a : Atm} : e_x_law_near_3 [s0, s1, s2, s3, s4, s5, s6, .im (.int y), .im (.int z), .un, .im a.d, s11] = some (.ok (Atm.mrg y z a).d [s0, s1, s2, s3, s4, s5, s6, .im (.int y), .im (.int z), .un, .im a.d, s11]) := by
  have hs : dSl a.d (some 1) none = some (.tup ([a.v, a.w].map .int)) := rfl
  have a0 : dIx a.d (.int 0) = some (.str ⟨#[a.k]⟩) := tix0
  have hi : i_x_law_near_1 [s0, s1, s2, s3, s4, s5, s6, .im (.int y), .im (.int z), .un, .im a.d, s11] = some (.ok ([a.v, a.w].map .int) [s0, s1, s2, s3, s4, s5, s6, .im (.int y), .im (.int z), .un, .im a.d, s11]) := by
    unfold i_x_law_near_1 mIt
    simp (config := { decide := false }) only [↓runDef, gOf, slotOf, endMs, ↓seqE, ↓bindE, bindO_ok, bindO_ex, bindO_none, seqO_nx, seqO_rt, seqO_rn, seqO_bk, seqO_ct, seqO_ex, seqO_none, ↓retE, ↓failE, ↓ifE, ↓andE, ↓andK_t, ↓andK_f, ↓orE, ↓orK_t, ↓orK_f, ↓andBE, ↓andBK_t, ↓andBK_f, ↓orBE, ↓orBK_t, ↓orBK_f, ↓chE, ↓chK_t, ↓chK_f, ifO_t, ifO_f, ↓mVa, ↓mFz, ↓mNm, ↓mFrz, ↓mOp2, ↓mOp1, ↓f2E, ↓f1E, ↓fsE, ansO_some, ansO_none, rdAll, Hd.rd, D.flat, ↓mCons, ↓mCall, ↓mTup, ↓mLst, ↓mFrzs, dBool, dadd, dsub, dgt, dMax2, dMin2, ↓mSet, ↓mSetN, ↓mSetIx, mKindN, isKindN, mWr, beq_self_eq_true, Sl.cell, Sl.put, ↓mFrzM, argDs, argD, apartB, putMu, ↓mCallF, ↓mCallN, Hd.isNm, nmu, List.cons_append, List.nil_append, List.length_cons, List.length_nil, List.replicate_succ, List.replicate_zero, List.getElem?_cons_zero, List.getElem?_cons_succ, List.set_cons_zero, List.set_cons_succ, List.any_nil, List.any_cons, Nat.reduceAdd, Nat.reduceSub, Nat.reduceBEq, if_true, if_false, Bool.false_eq_true, ↓reduceIte, Option.bind_some, Option.map_some, Bool.or_self, Bool.false_or, Bool.or_false, Bool.true_or, Bool.or_true, List.contains_nil, List.contains_cons, Bool.and_self, Bool.not_false, Bool.not_true, Bool.true_and, Bool.and_true, Bool.false_and, decide_true, decide_false, mSl, dSome, hs, itD]
  have lc : mLc none i_x_law_near_1 [9] (tgNm 9) (M.ret true) e_x_law_near_2 [s0, s1, s2, s3, s4, s5, s6, .im (.int y), .im (.int z), .un, .im a.d, s11] = some (.ok (.lst ([a.v, a.w].map fun x => .int (mrg y z x))) [s0, s1, s2, s3, s4, s5, s6, .im (.int y), .im (.int z), .un, .im a.d, s11]) :=
    lc_map D.int (fun x => .int (mrg y z x)) hi rfl (by simp) rfl rfl fun x hx => ⟨[s0, s1, s2, s3, s4, s5, s6, .im (.int y), .im (.int z), .im (.int x), .im a.d, s11], rfl, by
      unfold e_x_law_near_2 mrg
      by_cases c : x = y
      · rw [if_pos c]
        simp (config := { decide := false }) only [↓runDef, gOf, slotOf, endMs, ↓seqE, ↓bindE, bindO_ok, bindO_ex, bindO_none, seqO_nx, seqO_rt, seqO_rn, seqO_bk, seqO_ct, seqO_ex, seqO_none, ↓retE, ↓failE, ↓ifE, ↓andE, ↓andK_t, ↓andK_f, ↓orE, ↓orK_t, ↓orK_f, ↓andBE, ↓andBK_t, ↓andBK_f, ↓orBE, ↓orBK_t, ↓orBK_f, ↓chE, ↓chK_t, ↓chK_f, ifO_t, ifO_f, ↓mVa, ↓mFz, ↓mNm, ↓mFrz, ↓mOp2, ↓mOp1, ↓f2E, ↓f1E, ↓fsE, ansO_some, ansO_none, rdAll, Hd.rd, D.flat, ↓mCons, ↓mCall, ↓mTup, ↓mLst, ↓mFrzs, dBool, dadd, dsub, dgt, dMax2, dMin2, ↓mSet, ↓mSetN, ↓mSetIx, mKindN, isKindN, mWr, beq_self_eq_true, Sl.cell, Sl.put, ↓mFrzM, argDs, argD, apartB, putMu, ↓mCallF, ↓mCallN, Hd.isNm, nmu, List.cons_append, List.nil_append, List.length_cons, List.length_nil, List.replicate_succ, List.replicate_zero, List.getElem?_cons_zero, List.getElem?_cons_succ, List.set_cons_zero, List.set_cons_succ, List.any_nil, List.any_cons, Nat.reduceAdd, Nat.reduceSub, Nat.reduceBEq, if_true, if_false, Bool.false_eq_true, ↓reduceIte, Option.bind_some, Option.map_some, Bool.or_self, Bool.false_or, Bool.or_false, Bool.true_or, Bool.or_true, List.contains_nil, List.contains_cons, Bool.and_self, Bool.not_false, Bool.not_true, Bool.true_and, Bool.and_true, Bool.false_and, decide_true, decide_false, mIf, Sp.eq_i, c]
      · rw [if_neg c]
        simp (config := { decide := false }) only [↓runDef, gOf, slotOf, endMs, ↓seqE, ↓bindE, bindO_ok, bindO_ex, bindO_none, seqO_nx, seqO_rt, seqO_rn, seqO_bk, seqO_ct, seqO_ex, seqO_none, ↓retE, ↓failE, ↓ifE, ↓andE, ↓andK_t, ↓andK_f, ↓orE, ↓orK_t, ↓orK_f, ↓andBE, ↓andBK_t, ↓andBK_f, ↓orBE, ↓orBK_t, ↓orBK_f, ↓chE, ↓chK_t, ↓chK_f, ifO_t, ifO_f, ↓mVa, ↓mFz, ↓mNm, ↓mFrz, ↓mOp2, ↓mOp1, ↓f2E, ↓f1E, ↓fsE, ansO_some, ansO_none, rdAll, Hd.rd, D.flat, ↓mCons, ↓mCall, ↓mTup, ↓mLst, ↓mFrzs, dBool, dadd, dsub, dgt, dMax2, dMin2, ↓mSet, ↓mSetN, ↓mSetIx, mKindN, isKindN, mWr, beq_self_eq_true, Sl.cell, Sl.put, ↓mFrzM, argDs, argD, apartB, putMu, ↓mCallF, ↓mCallN, Hd.isNm, nmu, List.cons_append, List.nil_append, List.length_cons, List.length_nil, List.replicate_succ, List.replicate_zero, List.getElem?_cons_zero, List.getElem?_cons_succ, List.set_cons_zero, List.set_cons_succ, List.any_nil, List.any_cons, Nat.reduceAdd, Nat.reduceSub, Nat.reduceBEq, if_true, if_false, Bool.false_eq_true, ↓reduceIte, Option.bind_some, Option.map_some, Bool.or_self, Bool.false_or, Bool.or_false, Bool.true_or, Bool.or_true, List.contains_nil, List.contains_cons, Bool.and_self, Bool.not_false, Bool.not_true, Bool.true_and, Bool.and_true, Bool.false_and, decide_true, decide_false, mIf, Sp.eq_i, c], rfl⟩
  have hd : dTuple [.lst ([a.v, a.w].map fun x => D.int (mrg y z x))] = some (.tup ([a.v, a.w].map fun x => .int (mrg y z x))) := rfl
  have ad : dAdd (.tup [.str ⟨#[a.k]⟩]) (.tup ([a.v, a.w].map fun x => D.int (mrg y z x))) = some (Atm.mrg y z a).d := rfl
  unfold e_x_law_near_3
  simp (config := { decide := false }) only [↓runDef, gOf, slotOf, endMs, ↓seqE, ↓bindE, bindO_ok, bindO_ex, bindO_none, seqO_nx, seqO_rt, seqO_rn, seqO_bk, seqO_ct, seqO_ex, seqO_none, ↓retE, ↓failE, ↓ifE, ↓andE, ↓andK_t, ↓andK_f, ↓orE, ↓orK_t, ↓orK_f, ↓andBE, ↓andBK_t, ↓andBK_f, ↓orBE, ↓orBK_t, ↓orBK_f, ↓chE, ↓chK_t, ↓chK_f, ifO_t, ifO_f, ↓mVa, ↓mFz, ↓mNm, ↓mFrz, ↓mOp2, ↓mOp1, ↓f2E, ↓f1E, ↓fsE, ansO_some, ansO_none, rdAll, Hd.rd, D.flat, ↓mCons, ↓mCall, ↓mTup, ↓mLst, ↓mFrzs, dBool, dadd, dsub, dgt, dMax2, dMin2, ↓mSet, ↓mSetN, ↓mSetIx, mKindN, isKindN, mWr, beq_self_eq_true, Sl.cell, Sl.put, ↓mFrzM, argDs, argD, apartB, putMu, ↓mCallF, ↓mCallN, Hd.isNm, nmu, List.cons_append, List.nil_append, List.length_cons, List.length_nil, List.replicate_succ, List.replicate_zero, List.getElem?_cons_zero, List.getElem?_cons_succ, List.set_cons_zero, List.set_cons_succ, List.any_nil, List.any_cons, Nat.reduceAdd, Nat.reduceSub, Nat.reduceBEq, if_true, if_false, Bool.false_eq_true, ↓reduceIte, Option.bind_some, Option.map_some, Bool.or_self, Bool.false_or, Bool.or_false, Bool.true_or, Bool.or_true, List.contains_nil, List.contains_cons, Bool.and_self, Bool.not_false, Bool.not_true, Bool.true_and, Bool.and_true, Bool.false_and, decide_true, decide_false, a0, lit1, lc, hd, ad]
theorem near_lc {s0 s2 s3 s4 s5 s6 s9 s11 : Sl} {y z : Int} {as : List Atm} (h : as.length ≤ 100) (h9 : s9 = .un) : mLc (some 1) (mItN 1) [10] (tgNm 10) (M.ret true) e_x_law_near_3 [s0, .im (adl as), s2, s3, s4, s5, s6, .im (.int y), .im (.int z), s9, .un, s11] = some (.ok (adl (as.map (Atm.mrg y z))) [s0, .im (adl as), s2, s3, s4, s5, s6, .im (.int y), .im (.int z), s9, .un, s11]) := by
  subst h9
  have := lc_map (l := some 1) (it := mItN 1) (vs := [10]) (T := tgNm 10) (e := e_x_law_near_3) (g := [s0, .im (adl as), s2, s3, s4, s5, s6, .im (.int y), .im (.int z), .un, .un, s11]) (xs := as) Atm.d (fun a => (Atm.mrg y z a).d) (itN_im rfl rfl) rfl (by omega) rfl rfl fun a ha => ⟨[s0, .im (adl as), s2, s3, s4, s5, s6, .im (.int y), .im (.int z), .un, .im a.d, s11], rfl, near3, rfl⟩
  rw [this]
  unfold adl
  rw [List.map_map]
  rfl
/-- what the drawn way makes of the atoms -/
theorem near7 {s : So} {as : List Atm} {r4 r5 r6 y : Int} {i : Nat} (ok : ∀ a ∈ as, a.ok) (h1 : 1 ≤ as.length) (h4 : as.length ≤ 4) (hi : r5 = (i : Int)) (hl : i < as.length) (h6 : 0 ≤ r6 ∧ r6 < 10) (hr : 0 ≤ r4 ∧ r4 < 7) :
    ∃ (s' : So) (bs : List Atm) (z8 : Sl), (∀ b ∈ bs, b.ok) ∧ bs.length = as.length ∧ b_x_law_near_7 [.mb (so s), .im (adl as), .ow (adl as), .un, .im (.int r4), .im (.int r5), .im (.int r6), .im (.int y), .un, .un, .un, .un] = some (.ok .nx [.mb (so s'), .im (adl as), .ow (adl bs), .un, .im (.int r4), .im (.int r5), .im (.int r6), .im (.int y), z8, .un, .un, .un]) := by
  have hn : f_x_law_names [adl as] = some (.ret (.lst ((nms as).map .int)) []) := names_ok (by omega)
  have nok : ∀ n ∈ nms as, 0 ≤ n ∧ n ≤ 9 := fun n hn => by
    obtain ⟨a, ha, z⟩ := (mem_nms ok).mp hn
    have o := ok a ha
    rcases z with rfl | rfl
    · exact ⟨o.v0, o.v1⟩
    · exact ⟨o.w0, o.w1⟩
  have nne : nms as ≠ [] := by
    match as, h1 with
    | a :: r, _ => exact List.ne_nil_of_mem ((mem_nms ok).mpr ⟨a, List.mem_cons_self, .inl rfl⟩)
  have nlen : (nms as).length ≤ 10 := Nat.le_trans (List.length_filter_le _ _) (by simp)
  have gi : as[i]? = some as[i] := List.getElem?_eq_getElem hl
  have oki := ok _ (List.getElem_mem hl)
  have g5 := get_at (as := as) (m := r5) hi gi
  have g0 : dIx (adl as) (.int 0) = some (as[0]'(by omega)).d := get_at (as := as) (i := 0) rfl (List.getElem?_eq_getElem (by omega))
  have put : ∀ (x : Atm), x.ok → (∀ b ∈ as.set i x, b.ok) ∧ (as.set i x).length = as.length := fun x hx => ⟨fun b hb => by
    rcases List.mem_or_eq_of_mem_set hb with h | h
    · exact ok b h
    · rw [h]; exact hx, by simp⟩
  have st := fun x : Atm => set_at (as := as) (x := x) (m := r5) hi hl
  unfold adl at *
  unfold b_x_law_near_7
  by_cases c3 : r4 < 3
  · by_cases c2 : r4 < 2
    · obtain ⟨z', hz', s', e1⟩ := choose_l (xs := (nms as).map .int) s (by simpa using nne) (by simp; omega)
      obtain ⟨z, hz, rfl⟩ := List.mem_map.mp hz'
      refine ⟨s', as.map (Atm.mrg y z), .im (.int z), fun b hb => ?_, by simp, ?_⟩
      · obtain ⟨a, ha, rfl⟩ := List.mem_map.mp hb
        exact mrg_ok (nok z hz) (ok a ha)
      · have lc := near_lc (s0 := .mb (so s')) (s2 := .ow (adl as)) (s3 := .un) (s4 := .im (.int r4)) (s5 := .im (.int r5)) (s6 := .im (.int r6)) (s9 := .un) (s11 := .un) (y := y) (z := z) (as := as) (by omega) rfl
        unfold adl at lc
        simp (config := { decide := false }) only [↓runDef, gOf, slotOf, endMs, ↓seqE, ↓bindE, bindO_ok, bindO_ex, bindO_none, seqO_nx, seqO_rt, seqO_rn, seqO_bk, seqO_ct, seqO_ex, seqO_none, ↓retE, ↓failE, ↓ifE, ↓andE, ↓andK_t, ↓andK_f, ↓orE, ↓orK_t, ↓orK_f, ↓andBE, ↓andBK_t, ↓andBK_f, ↓orBE, ↓orBK_t, ↓orBK_f, ↓chE, ↓chK_t, ↓chK_f, ifO_t, ifO_f, ↓mVa, ↓mFz, ↓mNm, ↓mFrz, ↓mOp2, ↓mOp1, ↓f2E, ↓f1E, ↓fsE, ansO_some, ansO_none, rdAll, Hd.rd, D.flat, ↓mCons, ↓mCall, ↓mTup, ↓mLst, ↓mFrzs, dBool, dadd, dsub, dgt, dMax2, dMin2, ↓mSet, ↓mSetN, ↓mSetIx, mKindN, isKindN, mWr, beq_self_eq_true, Sl.cell, Sl.put, ↓mFrzM, argDs, argD, apartB, putMu, ↓mCallF, ↓mCallN, Hd.isNm, nmu, List.cons_append, List.nil_append, List.length_cons, List.length_nil, List.replicate_succ, List.replicate_zero, List.getElem?_cons_zero, List.getElem?_cons_succ, List.set_cons_zero, List.set_cons_succ, List.any_nil, List.any_cons, Nat.reduceAdd, Nat.reduceSub, Nat.reduceBEq, if_true, if_false, Bool.false_eq_true, ↓reduceIte, Option.bind_some, Option.map_some, Bool.or_self, Bool.false_or, Bool.or_false, Bool.true_or, Bool.or_true, List.contains_nil, List.contains_cons, Bool.and_self, Bool.not_false, Bool.not_true, Bool.true_and, Bool.and_true, Bool.false_and, decide_true, decide_false, so_flat, mIf, decide_eq_true c3, decide_eq_true c2, hn, e1, lc]
    · refine ⟨s, as.map (Atm.mrg y r6), .im (.int r6), fun b hb => ?_, by simp, ?_⟩
      · obtain ⟨a, ha, rfl⟩ := List.mem_map.mp hb
        exact mrg_ok ⟨h6.1, by omega⟩ (ok a ha)
      · have lc := near_lc (s0 := .mb (so s)) (s2 := .ow (adl as)) (s3 := .un) (s4 := .im (.int r4)) (s5 := .im (.int r5)) (s6 := .im (.int r6)) (s9 := .un) (s11 := .un) (y := y) (z := r6) (as := as) (by omega) rfl
        unfold adl at lc
        simp (config := { decide := false }) only [↓runDef, gOf, slotOf, endMs, ↓seqE, ↓bindE, bindO_ok, bindO_ex, bindO_none, seqO_nx, seqO_rt, seqO_rn, seqO_bk, seqO_ct, seqO_ex, seqO_none, ↓retE, ↓failE, ↓ifE, ↓andE, ↓andK_t, ↓andK_f, ↓orE, ↓orK_t, ↓orK_f, ↓andBE, ↓andBK_t, ↓andBK_f, ↓orBE, ↓orBK_t, ↓orBK_f, ↓chE, ↓chK_t, ↓chK_f, ifO_t, ifO_f, ↓mVa, ↓mFz, ↓mNm, ↓mFrz, ↓mOp2, ↓mOp1, ↓f2E, ↓f1E, ↓fsE, ansO_some, ansO_none, rdAll, Hd.rd, D.flat, ↓mCons, ↓mCall, ↓mTup, ↓mLst, ↓mFrzs, dBool, dadd, dsub, dgt, dMax2, dMin2, ↓mSet, ↓mSetN, ↓mSetIx, mKindN, isKindN, mWr, beq_self_eq_true, Sl.cell, Sl.put, ↓mFrzM, argDs, argD, apartB, putMu, ↓mCallF, ↓mCallN, Hd.isNm, nmu, List.cons_append, List.nil_append, List.length_cons, List.length_nil, List.replicate_succ, List.replicate_zero, List.getElem?_cons_zero, List.getElem?_cons_succ, List.set_cons_zero, List.set_cons_succ, List.any_nil, List.any_cons, Nat.reduceAdd, Nat.reduceSub, Nat.reduceBEq, if_true, if_false, Bool.false_eq_true, ↓reduceIte, Option.bind_some, Option.map_some, Bool.or_self, Bool.false_or, Bool.or_false, Bool.true_or, Bool.or_true, List.contains_nil, List.contains_cons, Bool.and_self, Bool.not_false, Bool.not_true, Bool.true_and, Bool.and_true, Bool.false_and, decide_true, decide_false, so_flat, mIf, decide_eq_true c3, decide_eq_false c2, hn, lc]
  · by_cases q3 : r4 = 3
    · obtain ⟨p1, p2⟩ := put ⟨as[i].k, as[i].v, r6⟩ ⟨oki.hk, oki.v0, oki.v1, h6.1, Int.le_of_lt_add_one h6.2⟩
      refine ⟨s, as.set i ⟨as[i].k, as[i].v, r6⟩, .un, p1, p2, ?_⟩
      have a0 : dIx as[i].d (.int 0) = some (.str ⟨#[as[i].k]⟩) := tix0
      have st := st ⟨as[i].k, as[i].v, r6⟩
      have ed : Atm.d ⟨as[i].k, as[i].v, r6⟩ = .tup [.str ⟨#[as[i].k]⟩, .int as[i].v, .int r6] := rfl
      rw [ed] at st
      subst q3
      have d1 : decide ((3 : Int) < 3) = false := rfl
      unfold b_x_law_near_6
      simp (config := { decide := false }) only [↓runDef, gOf, slotOf, endMs, ↓seqE, ↓bindE, bindO_ok, bindO_ex, bindO_none, seqO_nx, seqO_rt, seqO_rn, seqO_bk, seqO_ct, seqO_ex, seqO_none, ↓retE, ↓failE, ↓ifE, ↓andE, ↓andK_t, ↓andK_f, ↓orE, ↓orK_t, ↓orK_f, ↓andBE, ↓andBK_t, ↓andBK_f, ↓orBE, ↓orBK_t, ↓orBK_f, ↓chE, ↓chK_t, ↓chK_f, ifO_t, ifO_f, ↓mVa, ↓mFz, ↓mNm, ↓mFrz, ↓mOp2, ↓mOp1, ↓f2E, ↓f1E, ↓fsE, ansO_some, ansO_none, rdAll, Hd.rd, D.flat, ↓mCons, ↓mCall, ↓mTup, ↓mLst, ↓mFrzs, dBool, dadd, dsub, dgt, dMax2, dMin2, ↓mSet, ↓mSetN, ↓mSetIx, mKindN, isKindN, mWr, beq_self_eq_true, Sl.cell, Sl.put, ↓mFrzM, argDs, argD, apartB, putMu, ↓mCallF, ↓mCallN, Hd.isNm, nmu, List.cons_append, List.nil_append, List.length_cons, List.length_nil, List.replicate_succ, List.replicate_zero, List.getElem?_cons_zero, List.getElem?_cons_succ, List.set_cons_zero, List.set_cons_succ, List.any_nil, List.any_cons, Nat.reduceAdd, Nat.reduceSub, Nat.reduceBEq, if_true, if_false, Bool.false_eq_true, ↓reduceIte, Option.bind_some, Option.map_some, Bool.or_self, Bool.false_or, Bool.or_false, Bool.true_or, Bool.or_true, List.contains_nil, List.contains_cons, Bool.and_self, Bool.not_false, Bool.not_true, Bool.true_and, Bool.and_true, Bool.false_and, decide_true, decide_false, so_flat, d1, Sp.eq_i, g5, a0, at1, lit3, st]
    · by_cases q4 : r4 = 4
      · obtain ⟨p1, p2⟩ := put (as[0]'(by omega)) (ok _ (List.getElem_mem (by omega)))
        refine ⟨s, as.set i (as[0]'(by omega)), .un, p1, p2, ?_⟩
        subst q4
        have d1 : decide ((4 : Int) < 3) = false := rfl
        have d2 : decide ((4 : Int) = 3) = false := rfl
        unfold b_x_law_near_6 b_x_law_near_5
        simp (config := { decide := false }) only [↓runDef, gOf, slotOf, endMs, ↓seqE, ↓bindE, bindO_ok, bindO_ex, bindO_none, seqO_nx, seqO_rt, seqO_rn, seqO_bk, seqO_ct, seqO_ex, seqO_none, ↓retE, ↓failE, ↓ifE, ↓andE, ↓andK_t, ↓andK_f, ↓orE, ↓orK_t, ↓orK_f, ↓andBE, ↓andBK_t, ↓andBK_f, ↓orBE, ↓orBK_t, ↓orBK_f, ↓chE, ↓chK_t, ↓chK_f, ifO_t, ifO_f, ↓mVa, ↓mFz, ↓mNm, ↓mFrz, ↓mOp2, ↓mOp1, ↓f2E, ↓f1E, ↓fsE, ansO_some, ansO_none, rdAll, Hd.rd, D.flat, ↓mCons, ↓mCall, ↓mTup, ↓mLst, ↓mFrzs, dBool, dadd, dsub, dgt, dMax2, dMin2, ↓mSet, ↓mSetN, ↓mSetIx, mKindN, isKindN, mWr, beq_self_eq_true, Sl.cell, Sl.put, ↓mFrzM, argDs, argD, apartB, putMu, ↓mCallF, ↓mCallN, Hd.isNm, nmu, List.cons_append, List.nil_append, List.length_cons, List.length_nil, List.replicate_succ, List.replicate_zero, List.getElem?_cons_zero, List.getElem?_cons_succ, List.set_cons_zero, List.set_cons_succ, List.any_nil, List.any_cons, Nat.reduceAdd, Nat.reduceSub, Nat.reduceBEq, if_true, if_false, Bool.false_eq_true, ↓reduceIte, Option.bind_some, Option.map_some, Bool.or_self, Bool.false_or, Bool.or_false, Bool.true_or, Bool.or_true, List.contains_nil, List.contains_cons, Bool.and_self, Bool.not_false, Bool.not_true, Bool.true_and, Bool.and_true, Bool.false_and, decide_true, decide_false, so_flat, d1, d2, Sp.eq_i, g0, st]
      · by_cases q5 : r4 = 5
        · obtain ⟨k, hk, s', e1⟩ := choose_s (z := "CAB") s (by decide +kernel) (by decide +kernel)
          have hk' : k = 65 ∨ k = 66 ∨ k = 67 := by
            have : ∀ k ∈ ("CAB" : Str).cps.toList, k = 65 ∨ k = 66 ∨ k = 67 := by decide +kernel
            exact this k hk
          obtain ⟨p1, p2⟩ := put ⟨k, as[i].v, as[i].w⟩ ⟨hk', oki.v0, oki.v1, oki.w0, oki.w1⟩
          refine ⟨s', as.set i ⟨k, as[i].v, as[i].w⟩, .un, p1, p2, ?_⟩
          have st := st ⟨k, as[i].v, as[i].w⟩
          have ed : Atm.d ⟨k, as[i].v, as[i].w⟩ = .tup [.str ⟨#[k]⟩, .int as[i].v, .int as[i].w] := rfl
          rw [ed] at st
          have a2 : dIx as[i].d (.int 2) = some (.int as[i].w) := tix2
          subst q5
          have d1 : decide ((5 : Int) < 3) = false := rfl
          have d2 : decide ((5 : Int) = 3) = false := rfl
          have d3 : decide ((5 : Int) = 4) = false := rfl
          unfold b_x_law_near_6 b_x_law_near_5 b_x_law_near_4
          simp (config := { decide := false }) only [↓runDef, gOf, slotOf, endMs, ↓seqE, ↓bindE, bindO_ok, bindO_ex, bindO_none, seqO_nx, seqO_rt, seqO_rn, seqO_bk, seqO_ct, seqO_ex, seqO_none, ↓retE, ↓failE, ↓ifE, ↓andE, ↓andK_t, ↓andK_f, ↓orE, ↓orK_t, ↓orK_f, ↓andBE, ↓andBK_t, ↓andBK_f, ↓orBE, ↓orBK_t, ↓orBK_f, ↓chE, ↓chK_t, ↓chK_f, ifO_t, ifO_f, ↓mVa, ↓mFz, ↓mNm, ↓mFrz, ↓mOp2, ↓mOp1, ↓f2E, ↓f1E, ↓fsE, ansO_some, ansO_none, rdAll, Hd.rd, D.flat, ↓mCons, ↓mCall, ↓mTup, ↓mLst, ↓mFrzs, dBool, dadd, dsub, dgt, dMax2, dMin2, ↓mSet, ↓mSetN, ↓mSetIx, mKindN, isKindN, mWr, beq_self_eq_true, Sl.cell, Sl.put, ↓mFrzM, argDs, argD, apartB, putMu, ↓mCallF, ↓mCallN, Hd.isNm, nmu, List.cons_append, List.nil_append, List.length_cons, List.length_nil, List.replicate_succ, List.replicate_zero, List.getElem?_cons_zero, List.getElem?_cons_succ, List.set_cons_zero, List.set_cons_succ, List.any_nil, List.any_cons, Nat.reduceAdd, Nat.reduceSub, Nat.reduceBEq, if_true, if_false, Bool.false_eq_true, ↓reduceIte, Option.bind_some, Option.map_some, Bool.or_self, Bool.false_or, Bool.or_false, Bool.true_or, Bool.or_true, List.contains_nil, List.contains_cons, Bool.and_self, Bool.not_false, Bool.not_true, Bool.true_and, Bool.and_true, Bool.false_and, decide_true, decide_false, so_flat, d1, d2, d3, Sp.eq_i, g5, at1, a2, lit3, e1, st]
        · refine ⟨s, as, .un, ok, rfl, ?_⟩
          unfold b_x_law_near_6 b_x_law_near_5 b_x_law_near_4
          simp (config := { decide := false }) only [↓runDef, gOf, slotOf, endMs, ↓seqE, ↓bindE, bindO_ok, bindO_ex, bindO_none, seqO_nx, seqO_rt, seqO_rn, seqO_bk, seqO_ct, seqO_ex, seqO_none, ↓retE, ↓failE, ↓ifE, ↓andE, ↓andK_t, ↓andK_f, ↓orE, ↓orK_t, ↓orK_f, ↓andBE, ↓andBK_t, ↓andBK_f, ↓orBE, ↓orBK_t, ↓orBK_f, ↓chE, ↓chK_t, ↓chK_f, ifO_t, ifO_f, ↓mVa, ↓mFz, ↓mNm, ↓mFrz, ↓mOp2, ↓mOp1, ↓f2E, ↓f1E, ↓fsE, ansO_some, ansO_none, rdAll, Hd.rd, D.flat, ↓mCons, ↓mCall, ↓mTup, ↓mLst, ↓mFrzs, dBool, dadd, dsub, dgt, dMax2, dMin2, ↓mSet, ↓mSetN, ↓mSetIx, mKindN, isKindN, mWr, beq_self_eq_true, Sl.cell, Sl.put, ↓mFrzM, argDs, argD, apartB, putMu, ↓mCallF, ↓mCallN, Hd.isNm, nmu, List.cons_append, List.nil_append, List.length_cons, List.length_nil, List.replicate_succ, List.replicate_zero, List.getElem?_cons_zero, List.getElem?_cons_succ, List.set_cons_zero, List.set_cons_succ, List.any_nil, List.any_cons, Nat.reduceAdd, Nat.reduceSub, Nat.reduceBEq, if_true, if_false, Bool.false_eq_true, ↓reduceIte, Option.bind_some, Option.map_some, Bool.or_self, Bool.false_or, Bool.or_false, Bool.true_or, Bool.or_true, List.contains_nil, List.contains_cons, Bool.and_self, Bool.not_false, Bool.not_true, Bool.true_and, Bool.and_true, Bool.false_and, decide_true, decide_false, so_flat, decide_eq_false c3, Sp.eq_i, q3, q4, q5]
theorem pop_l {as : List Atm} (h : as ≠ []) : ∃ z, fPop (adl as) [] = some (z, adl as.dropLast) := by
  obtain ⟨f, l, rfl⟩ : ∃ f l, as = f ++ [l] := ⟨_, _, (List.dropLast_concat_getLast h).symm⟩
  refine ⟨l.d, ?_⟩
  simp [adl, fPop]
theorem near8 {s : So} {as bs : List Atm} {s3 s4 s5 s6 s7 s8 s9 s10 s11 : Sl} (ok : ∀ a ∈ bs, a.ok) (h1 : 1 ≤ bs.length) (h4 : bs.length ≤ 4) :
    ∃ (s' : So) (cs : List Atm), (∀ b ∈ cs, b.ok) ∧ 1 ≤ cs.length ∧ cs.length ≤ 4 ∧ b_x_law_near_8 [.mb (so s), .im (adl as), .ow (adl bs), s3, s4, s5, s6, s7, s8, s9, s10, s11] = some (.ok .nx [.mb (so s'), .im (adl as), .ow (adl cs), s3, s4, s5, s6, s7, s8, s9, s10, s11]) := by
  have ln := len_adl (as := bs)
  unfold adl at *
  unfold b_x_law_near_8
  by_cases c : 1 < bs.length
  · have gt : decide ((1 : Int) < (bs.length : Nat)) = true := decide_eq_true (by omega)
    obtain ⟨r, s', e1, r0, r1⟩ := draw1 s 6 (by decide) (by decide)
    by_cases hr : r = 0
    · obtain ⟨z, hz⟩ := pop_l (as := bs) (fun z => by rw [z] at c; cases c)
      unfold adl at hz
      refine ⟨s', bs.dropLast, fun b hb => ok b (List.dropLast_subset _ hb), by simp; omega, by simp; omega, ?_⟩
      simp (config := { decide := false }) only [↓runDef, gOf, slotOf, endMs, ↓seqE, ↓bindE, bindO_ok, bindO_ex, bindO_none, seqO_nx, seqO_rt, seqO_rn, seqO_bk, seqO_ct, seqO_ex, seqO_none, ↓retE, ↓failE, ↓ifE, ↓andE, ↓andK_t, ↓andK_f, ↓orE, ↓orK_t, ↓orK_f, ↓andBE, ↓andBK_t, ↓andBK_f, ↓orBE, ↓orBK_t, ↓orBK_f, ↓chE, ↓chK_t, ↓chK_f, ifO_t, ifO_f, ↓mVa, ↓mFz, ↓mNm, ↓mFrz, ↓mOp2, ↓mOp1, ↓f2E, ↓f1E, ↓fsE, ansO_some, ansO_none, rdAll, Hd.rd, D.flat, ↓mCons, ↓mCall, ↓mTup, ↓mLst, ↓mFrzs, dBool, dadd, dsub, dgt, dMax2, dMin2, ↓mSet, ↓mSetN, ↓mSetIx, mKindN, isKindN, mWr, beq_self_eq_true, Sl.cell, Sl.put, ↓mFrzM, argDs, argD, apartB, putMu, ↓mCallF, ↓mCallN, Hd.isNm, nmu, List.cons_append, List.nil_append, List.length_cons, List.length_nil, List.replicate_succ, List.replicate_zero, List.getElem?_cons_zero, List.getElem?_cons_succ, List.set_cons_zero, List.set_cons_succ, List.any_nil, List.any_cons, Nat.reduceAdd, Nat.reduceSub, Nat.reduceBEq, if_true, if_false, Bool.false_eq_true, ↓reduceIte, Option.bind_some, Option.map_some, Bool.or_self, Bool.false_or, Bool.or_false, Bool.true_or, Bool.or_true, List.contains_nil, List.contains_cons, Bool.and_self, Bool.not_false, Bool.not_true, Bool.true_and, Bool.and_true, Bool.false_and, decide_true, decide_false, so_flat, ln, gt, e1, Sp.eq_i, hr, mWm, hz]
    · refine ⟨s', bs, ok, h1, h4, ?_⟩
      simp (config := { decide := false }) only [↓runDef, gOf, slotOf, endMs, ↓seqE, ↓bindE, bindO_ok, bindO_ex, bindO_none, seqO_nx, seqO_rt, seqO_rn, seqO_bk, seqO_ct, seqO_ex, seqO_none, ↓retE, ↓failE, ↓ifE, ↓andE, ↓andK_t, ↓andK_f, ↓orE, ↓orK_t, ↓orK_f, ↓andBE, ↓andBK_t, ↓andBK_f, ↓orBE, ↓orBK_t, ↓orBK_f, ↓chE, ↓chK_t, ↓chK_f, ifO_t, ifO_f, ↓mVa, ↓mFz, ↓mNm, ↓mFrz, ↓mOp2, ↓mOp1, ↓f2E, ↓f1E, ↓fsE, ansO_some, ansO_none, rdAll, Hd.rd, D.flat, ↓mCons, ↓mCall, ↓mTup, ↓mLst, ↓mFrzs, dBool, dadd, dsub, dgt, dMax2, dMin2, ↓mSet, ↓mSetN, ↓mSetIx, mKindN, isKindN, mWr, beq_self_eq_true, Sl.cell, Sl.put, ↓mFrzM, argDs, argD, apartB, putMu, ↓mCallF, ↓mCallN, Hd.isNm, nmu, List.cons_append, List.nil_append, List.length_cons, List.length_nil, List.replicate_succ, List.replicate_zero, List.getElem?_cons_zero, List.getElem?_cons_succ, List.set_cons_zero, List.set_cons_succ, List.any_nil, List.any_cons, Nat.reduceAdd, Nat.reduceSub, Nat.reduceBEq, if_true, if_false, Bool.false_eq_true, ↓reduceIte, Option.bind_some, Option.map_some, Bool.or_self, Bool.false_or, Bool.or_false, Bool.true_or, Bool.or_true, List.contains_nil, List.contains_cons, Bool.and_self, Bool.not_false, Bool.not_true, Bool.true_and, Bool.and_true, Bool.false_and, decide_true, decide_false, so_flat, ln, gt, e1, Sp.eq_i, hr]
  · have gt : decide ((1 : Int) < (bs.length : Nat)) = false := decide_eq_false (by omega)
    refine ⟨s, bs, ok, h1, h4, ?_⟩
    simp (config := { decide := false }) only [↓runDef, gOf, slotOf, endMs, ↓seqE, ↓bindE, bindO_ok, bindO_ex, bindO_none, seqO_nx, seqO_rt, seqO_rn, seqO_bk, seqO_ct, seqO_ex, seqO_none, ↓retE, ↓failE, ↓ifE, ↓andE, ↓andK_t, ↓andK_f, ↓orE, ↓orK_t, ↓orK_f, ↓andBE, ↓andBK_t, ↓andBK_f, ↓orBE, ↓orBK_t, ↓orBK_f, ↓chE, ↓chK_t, ↓chK_f, ifO_t, ifO_f, ↓mVa, ↓mFz, ↓mNm, ↓mFrz, ↓mOp2, ↓mOp1, ↓f2E, ↓f1E, ↓fsE, ansO_some, ansO_none, rdAll, Hd.rd, D.flat, ↓mCons, ↓mCall, ↓mTup, ↓mLst, ↓mFrzs, dBool, dadd, dsub, dgt, dMax2, dMin2, ↓mSet, ↓mSetN, ↓mSetIx, mKindN, isKindN, mWr, beq_self_eq_true, Sl.cell, Sl.put, ↓mFrzM, argDs, argD, apartB, putMu, ↓mCallF, ↓mCallN, Hd.isNm, nmu, List.cons_append, List.nil_append, List.length_cons, List.length_nil, List.replicate_succ, List.replicate_zero, List.getElem?_cons_zero, List.getElem?_cons_succ, List.set_cons_zero, List.set_cons_succ, List.any_nil, List.any_cons, Nat.reduceAdd, Nat.reduceSub, Nat.reduceBEq, if_true, if_false, Bool.false_eq_true, ↓reduceIte, Option.bind_some, Option.map_some, Bool.or_self, Bool.false_or, Bool.or_false, Bool.true_or, Bool.or_true, List.contains_nil, List.contains_cons, Bool.and_self, Bool.not_false, Bool.not_true, Bool.true_and, Bool.and_true, Bool.false_and, decide_true, decide_false, so_flat, ln, gt]
theorem near_gen {lc0 : M D} {b7 b8 : M Fl} {fd fn fc : Fn} {s s1 s2 s3 s4 s5 s6 s7 : So} {A C : List D} {B E1 E2 R N : D} {r4 r5 r6 y r11 n m : Int} {z8 : Sl} (hl : dLen [.lst A] = some (.int n)) (hl2 : dLen [.lst C] = some (.int m))
    (e0 : lc0 [.mb (so s), .im (.lst A), .un, .un, .un, .un, .un, .un, .un, .un, .un, .un] = some (.ok (.lst A) [.mb (so s), .im (.lst A), .un, .un, .un, .un, .un, .un, .un, .un, .un, .un]))
    (e1 : fd [so s, .int 7] = some (.ret (.int r4) [so s1])) (e2 : fd [so s1, .int n] = some (.ret (.int r5) [so s2])) (e3 : fd [so s2, .int 10] = some (.ret (.int r6) [so s3])) (e4 : fn [.lst A] = some (.ret N [])) (e5 : fc [so s3, N] = some (.ret (.int y) [so s4]))
    (e7 : b7 [.mb (so s4), .im (.lst A), .ow (.lst A), .un, .im (.int r4), .im (.int r5), .im (.int r6), .im (.int y), .un, .un, .un, .un] = some (.ok .nx [.mb (so s5), .im (.lst A), .ow B, .un, .im (.int r4), .im (.int r5), .im (.int r6), .im (.int y), z8, .un, .un, .un]))
    (e8 : b8 [.mb (so s5), .im (.lst A), .ow B, .un, .im (.int r4), .im (.int r5), .im (.int r6), .im (.int y), z8, .un, .un, .un] = some (.ok .nx [.mb (so s6), .im (.lst A), .ow (.lst C), .un, .im (.int r4), .im (.int r5), .im (.int r6), .im (.int y), z8, .un, .un, .un]))
    (e9 : fd [so s6, .int m] = some (.ret (.int r11) [so s7])) (c1 : dSl (.lst C) (some r11) none = some E1) (c2 : dSl (.lst C) none (some r11) = some E2) (c3 : dAdd E1 E2 = some R) :
    runDef [.mu, .im] 12 (mSeq (mSetN 2 lc0)
    (mSeq (mPar 4 5 (mCons (mVa ((mCons (mNm 0) (mCons (mVa (M.ret (.int 7))) (M.ret []))).bind (mCallF [.mu, .im] fd))) (mCons (mVa ((mCons (mNm 0) (mCons (mVa (mCall dLen (mCons (mNm 1) (M.ret [])))) (M.ret []))).bind (mCallF [.mu, .im] fd))) (M.ret []))))
    (mSeq (mAsg (tgTup 2 (tgCons (tgNm 6) (tgCons (tgNm 7) tgNil))) (mTup (mCons (mVa ((mCons (mNm 0) (mCons (mVa (M.ret (.int 10))) (M.ret []))).bind (mCallF [.mu, .im] fd))) (mCons (mVa ((mCons (mNm 0) (mCons (mVa ((mCons (mNm 1) (M.ret [])).bind (mCallF [.im] fn))) (M.ret []))).bind (mCallF [.mu, .ro] fc))) (M.ret [])))))
    (mSeq b7
    (mSeq b8
    (mSeq (mSet 11 ((mCons (mNm 0) (mCons (mVa (mCall dLen (mCons (mNm 2) (M.ret [])))) (M.ret []))).bind (mCallF [.mu, .im] fd)))
    ((mOp2 dAdd (mVa (mSl (mNm 2) ((mFz 11).bind dSome) (M.ret none))) (mVa (mSl (mNm 2) (M.ret none) ((mFz 11).bind dSome)))).bind fun d => M.ret (.rt d)))))))) [so s, .lst A] = some (.ret R [so s7]) := by
  simp (config := { decide := false }) only [↓runDef, gOf, slotOf, endMs, ↓seqE, ↓bindE, bindO_ok, bindO_ex, bindO_none, seqO_nx, seqO_rt, seqO_rn, seqO_bk, seqO_ct, seqO_ex, seqO_none, ↓retE, ↓failE, ↓ifE, ↓andE, ↓andK_t, ↓andK_f, ↓orE, ↓orK_t, ↓orK_f, ↓andBE, ↓andBK_t, ↓andBK_f, ↓orBE, ↓orBK_t, ↓orBK_f, ↓chE, ↓chK_t, ↓chK_f, ifO_t, ifO_f, ↓mVa, ↓mFz, ↓mNm, ↓mFrz, ↓mOp2, ↓mOp1, ↓f2E, ↓f1E, ↓fsE, ansO_some, ansO_none, rdAll, Hd.rd, D.flat, ↓mCons, ↓mCall, ↓mTup, ↓mLst, ↓mFrzs, dBool, dadd, dsub, dgt, dMax2, dMin2, ↓mSet, ↓mSetN, ↓mSetIx, mKindN, isKindN, mWr, beq_self_eq_true, Sl.cell, Sl.put, ↓mFrzM, argDs, argD, apartB, putMu, ↓mCallF, ↓mCallN, Hd.isNm, nmu, List.cons_append, List.nil_append, List.length_cons, List.length_nil, List.replicate_succ, List.replicate_zero, List.getElem?_cons_zero, List.getElem?_cons_succ, List.set_cons_zero, List.set_cons_succ, List.any_nil, List.any_cons, Nat.reduceAdd, Nat.reduceSub, Nat.reduceBEq, if_true, if_false, Bool.false_eq_true, ↓reduceIte, Option.bind_some, Option.map_some, Bool.or_self, Bool.false_or, Bool.or_false, Bool.true_or, Bool.or_true, List.contains_nil, List.contains_cons, Bool.and_self, Bool.not_false, Bool.not_true, Bool.true_and, Bool.and_true, Bool.false_and, decide_true, decide_false, so_flat, e0, e1, hl, e2, e3, e4, e5, mPar, mAsg, tgTup, tgCons, tgNm, tgNil, lit2, e7, e8, hl2, e9, mSl, dSome, c1, c2, c3]
theorem near_n (s : So) {as : List Atm} (ok : ∀ a ∈ as, a.ok) (h1 : 1 ≤ as.length) (h4 : as.length ≤ 4) : ∃ (s' : So) (bs : List Atm), (∀ b ∈ bs, b.ok) ∧ 1 ≤ bs.length ∧ bs.length ≤ 4 ∧ f_x_law_near [so s, adl as] = some (.ret (adl bs) [so s']) := by
  obtain ⟨r4, s1, e1, a1, a2⟩ := draw1 s 7 (by decide) (by decide)
  obtain ⟨r5, s2, e2, b1, b2⟩ := draw1 s1 (as.length : Nat) (by omega) (by omega)
  obtain ⟨r6, s3, e3, c1, c2⟩ := draw1 s2 10 (by decide) (by decide)
  have e4 : f_x_law_names [adl as] = some (.ret (.lst ((nms as).map .int)) []) := names_ok (by omega)
  have nne : nms as ≠ [] := by
    match as, h1 with
    | a :: r, _ => exact List.ne_nil_of_mem ((mem_nms ok).mpr ⟨a, List.mem_cons_self, .inl rfl⟩)
  have nlen : (nms as).length ≤ 10 := Nat.le_trans (List.length_filter_le _ _) (by simp)
  obtain ⟨y', hy', s4, e5⟩ := choose_l (xs := (nms as).map .int) s3 (by simpa using nne) (by simp; omega)
  obtain ⟨y, hy, rfl⟩ := List.mem_map.mp hy'
  obtain ⟨s5, bs, z8, p1, p2, e7⟩ := near7 (s := s4) (r4 := r4) (r5 := r5) (r6 := r6) (y := y) (i := r5.toNat) ok h1 h4 (by omega) (by omega) ⟨c1, c2⟩ ⟨a1, a2⟩
  obtain ⟨s6, cs, q1, q2, q3, e8⟩ := near8 (s := s5) (as := as) (bs := bs) (s3 := .un) (s4 := .im (.int r4)) (s5 := .im (.int r5)) (s6 := .im (.int r6)) (s7 := .im (.int y)) (s8 := z8) (s9 := .un) (s10 := .un) (s11 := .un) p1 (by omega) (by omega)
  obtain ⟨r11, s7, e9, d1, d2⟩ := draw1 s6 (cs.length : Nat) (by omega) (by omega)
  have lc0 : mLc (some 1) (mItN 1) [3] (tgNm 3) (M.ret true) (mFz 3) [.mb (so s), .im (adl as), .un, .un, .un, .un, .un, .un, .un, .un, .un, .un] = some (.ok (adl as) [.mb (so s), .im (adl as), .un, .un, .un, .un, .un, .un, .un, .un, .un, .un]) :=
    lc_map Atm.d Atm.d (itN_im rfl rfl) rfl (by omega) rfl rfl fun a ha => ⟨[.mb (so s), .im (adl as), .un, .im a.d, .un, .un, .un, .un, .un, .un, .un, .un], rfl, rfl, rfl⟩
  have k1 : dSl (adl cs) (some r11) none = some (.lst ((cs.drop r11.toNat).map Atm.d)) := by
    rw [List.map_drop]
    exact cut_hi (by omega) (by simp; omega)
  have k2 : dSl (adl cs) none (some r11) = some (.lst ((cs.take r11.toNat).map Atm.d)) := by
    rw [List.map_take]
    exact cut_lo (by omega) (by simp; omega)
  have k3 : dAdd (.lst ((cs.drop r11.toNat).map Atm.d)) (.lst ((cs.take r11.toNat).map Atm.d)) = some (adl (cs.drop r11.toNat ++ cs.take r11.toNat)) := by
    rw [lst_app (by simp; omega), ← List.map_append]
    rfl
  refine ⟨s7, cs.drop r11.toNat ++ cs.take r11.toNat, fun b hb => ?_, by simp; omega, by simp; omega, near_gen len_adl len_adl lc0 e1 e2 e3 e4 e5 e7 e8 e9 k1 k2 k3⟩
  rcases List.mem_append.mp hb with h | h
  · exact q1 b (List.mem_of_mem_drop h)
  · exact q1 b (List.mem_of_mem_take h)
end Cq.S6

set_option Elab.async false
set_option linter.all false
set_option maxRecDepth 100000
set_option maxHeartbeats 1000000
namespace Cq.Sp
open PySem PyProof.Rows L2 Cq
abbrev KV := List (Int × Int)
def aget (kv : KV) (v : Int) : Option Int := (kv.find? fun p => decide (p.1 = v)).map (·.2)
def ep (p : Int × Int) : D := .tup [.int p.1, .int p.2]
end Cq.Sp

set_option Elab.async false
set_option linter.all false
set_option maxRecDepth 100000
set_option maxHeartbeats 1000000
namespace Cq.Sp
open PySem PyProof.Rows L2 Cq
def Atm.K (a : Atm) : Str := ⟨#[a.k]⟩
/-- a row whose number may be a factor -/
structure Rw (r : Row) : Prop where
  mul : ∀ i : Int, dMul (.int i) (.int r.o) = some (.int (i * r.o))
theorem Row.ok.rw {r : Row} (h : r.ok) : Rw r := ⟨fun i => dmulr (by have := h.o0; have := h.o1; omega)⟩
end Cq.Sp

set_option Elab.async false
set_option linter.all false
set_option maxRecDepth 100000
set_option maxHeartbeats 1000000
namespace Cq.Sp
open PySem PyProof.Rows L2 Cq
def Agr (ps : List (Int × Int)) : Prop := ∀ p ∈ ps, ∀ q ∈ ps, p.1 = q.1 → p.2 = q.2
/-- the pairs that known has -/
def Rk (kv : KV) (ps : List (Int × Int)) : Prop := ∀ v x, aget kv v = some x ↔ (v, x) ∈ ps
theorem Rk.con {kv : KV} {ps : List (Int × Int)} (h : Rk kv ps) : Agr ps := fun p hp q hq e => by
  have a := (h p.1 p.2).mpr hp
  have b := (h q.1 q.2).mpr hq
  rw [e, b] at a
  exact (Option.some.inj a).symm
abbrev Ch := List (Atm × Row)
def gv (c : Ch) : List (Int × Int) := c.flatMap fun p => [(p.1.v, p.2.l), (p.1.w, p.2.r)]
end Cq.Sp

set_option Elab.async false
set_option linter.all false
set_option maxRecDepth 100000
set_option maxHeartbeats 1000000
namespace Cq.Sp
open PySem PyProof.Rows L2 Cq
abbrev PP := List (Atm × Atm)
end Cq.Sp

set_option Elab.async false
set_option linter.all false
set_option maxRecDepth 100000
set_option maxHeartbeats 1000000
namespace Cq.Sp
open PySem PyProof.Rows L2 Cq
def nmsV (as : List Atm) : List Int := sdL (vals as)
end Cq.Sp

set_option Elab.async false
set_option linter.all false
set_option maxRecDepth 100000
set_option maxHeartbeats 1000000
namespace Cq.Sp
open PySem PyProof.Rows L2 Cq
theorem nmsV_len {as : List Atm} (h : as.length ≤ 4) : (nmsV as).length ≤ 8 := by
  have := sdL_len (vals as)
  have e : (vals as).length = 2 * as.length := by simp [vals]; omega
  unfold nmsV
  omega
end Cq.Sp

set_option Elab.async false
set_option linter.all false
set_option maxRecDepth 100000
set_option maxHeartbeats 1000000
namespace Cq.Sp
open PySem PyProof.Rows L2 Cq
def im1 (ns t : List Int) (a : Atm) : Option Atm := if ix a.v ns < t.length ∧ ix a.w ns < t.length then some ⟨a.k, t.getD (ix a.v ns) 0, t.getD (ix a.w ns) 0⟩ else none
def lim (as : List Atm) (ns t : List Int) : List Atm := as.filterMap (im1 ns t)
end Cq.Sp

set_option Elab.async false
set_option linter.all false
set_option maxRecDepth 100000
set_option maxHeartbeats 1000000
set_option Elab.async false
set_option linter.all false
set_option maxRecDepth 100000
set_option maxHeartbeats 1000000
namespace Cq
open PySem PyProof.Rows L2
theorem str_tl (x y : Str) : TL.tl (x ++ y) = TL.tl x ++ TL.tl y := TL.tl_append x y
end Cq

set_option Elab.async false
set_option linter.all false
set_option maxRecDepth 100000
set_option maxHeartbeats 1000000
set_option Elab.async false
set_option linter.all false
set_option maxRecDepth 100000
set_option maxHeartbeats 1000000
namespace Cq.K61
open PySem PyProof.Rows L2 Cq Cq.Sp Cq.S6
theorem varsH_ok {as : List Atm} (h4 : as.length ≤ 4) : fh_variables_of [.tup (as.map Atm.d)] = some (.ret (.tup ((sdL (vals as)).map .int)) []) := by
  have c1 : mLc none (mItT (mFz 0)) [1] (tgNm 1) (M.ret true) e_variables_of_1 [.im (.tup (as.map Atm.d)), .un] = some (.ok (.lst ((as.map (·.v)).map .int)) [.im (.tup (as.map Atm.d)), .un]) := by
    have := mLc_run (T := tgNm 1) (c := M.ret true) (e := e_variables_of_1) (l := none) (it := mItT (mFz 0)) (vs := [1]) (g := [.im (.tup (as.map Atm.d)), .un]) (ds := as.map Atm.d) (fun _ => true) (fun d => match d with | .tup [a, b, c] => b | _ => .non) rfl rfl (by simp; omega) rfl rfl fun d hd => by
      obtain ⟨a, ha, rfl⟩ := List.mem_map.mp hd
      exact ⟨_, rfl, rfl, fun _ => rfl, rfl⟩
    rw [this, filter_map_all, List.map_map, List.map_map]
    rfl
  have c2 : mLc none (mItT (mFz 0)) [1] (tgNm 1) (M.ret true) e_variables_of_2 [.im (.tup (as.map Atm.d)), .un] = some (.ok (.lst ((as.map (·.w)).map .int)) [.im (.tup (as.map Atm.d)), .un]) := by
    have := mLc_run (T := tgNm 1) (c := M.ret true) (e := e_variables_of_2) (l := none) (it := mItT (mFz 0)) (vs := [1]) (g := [.im (.tup (as.map Atm.d)), .un]) (ds := as.map Atm.d) (fun _ => true) (fun d => match d with | .tup [a, b, c] => c | _ => .non) rfl rfl (by simp; omega) rfl rfl fun d hd => by
      obtain ⟨a, ha, rfl⟩ := List.mem_map.mp hd
      exact ⟨_, rfl, rfl, fun _ => rfl, rfl⟩
    rw [this, filter_map_all, List.map_map, List.map_map]
    rfl
  have ha : dAdd (.lst ((as.map (·.v)).map .int)) (.lst ((as.map (·.w)).map .int)) = some (.lst ((vals as).map .int)) := by
    simp only [dAdd]
    rw [if_pos (by simp; omega), vals, List.map_append]
  have hs : iSortSet [.lst ((vals as).map .int)] = some (.lst ((sdL (vals as)).map .int)) := by
    simp only [iSortSet, intsOf_map]
    rw [if_pos (by simp [vals]; omega)]
  unfold fh_variables_of mh_variables_of
  simp (config := { decide := false }) only [↓runDef, gOf, slotOf, endMs, ↓seqE, ↓bindE, bindO_ok, bindO_ex, bindO_none, seqO_nx, seqO_rt, seqO_rn, seqO_bk, seqO_ct, seqO_ex, seqO_none, ↓retE, ↓failE, ↓ifE, ↓andE, ↓andK_t, ↓andK_f, ↓orE, ↓orK_t, ↓orK_f, ↓andBE, ↓andBK_t, ↓andBK_f, ↓orBE, ↓orBK_t, ↓orBK_f, ↓chE, ↓chK_t, ↓chK_f, ifO_t, ifO_f, ↓mVa, ↓mFz, ↓mNm, ↓mFrz, ↓mOp2, ↓mOp1, ↓f2E, ↓f1E, ↓fsE, ansO_some, ansO_none, rdAll, Hd.rd, D.flat, ↓mCons, ↓mCall, ↓mTup, ↓mLst, ↓mFrzs, dBool, dadd, dsub, dgt, dMax2, dMin2, ↓mSet, ↓mSetN, ↓mSetIx, mKindN, isKindN, mWr, beq_self_eq_true, Sl.cell, Sl.put, ↓mFrzM, argDs, argD, apartB, putMu, ↓mCallF, ↓mCallN, Hd.isNm, nmu, List.cons_append, List.nil_append, List.length_cons, List.length_nil, List.replicate_succ, List.replicate_zero, List.getElem?_cons_zero, List.getElem?_cons_succ, List.set_cons_zero, List.set_cons_succ, List.any_nil, List.any_cons, Nat.reduceAdd, Nat.reduceSub, Nat.reduceBEq, if_true, if_false, Bool.false_eq_true, ↓reduceIte, Option.bind_some, Option.map_some, Bool.or_self, Bool.false_or, Bool.or_false, Bool.true_or, Bool.or_true, List.contains_nil, List.contains_cons, Bool.and_self, Bool.not_false, Bool.not_true, Bool.true_and, Bool.and_true, Bool.false_and, decide_true, decide_false, c1, c2, ha, hs, dTuple]
theorem fmt_gen {n : Int} (h : 0 ≤ n ∧ n ≤ 100) : dFmt (.int n) = some (.str (num n)) := fmt_num (by omega)
theorem ret_gen {m1 : M D} {x d : D} (h : m1 [.im x] = some (.ok d [.im x])) : runDef [.im] 1 (m1.bind fun d => M.ret (.rt d)) [x] = some (.ret d []) := by
  simp (config := { decide := false }) only [↓runDef, gOf, slotOf, endMs, ↓seqE, ↓bindE, bindO_ok, bindO_ex, bindO_none, seqO_nx, seqO_rt, seqO_rn, seqO_bk, seqO_ct, seqO_ex, seqO_none, ↓retE, ↓failE, ↓ifE, ↓andE, ↓andK_t, ↓andK_f, ↓orE, ↓orK_t, ↓orK_f, ↓andBE, ↓andBK_t, ↓andBK_f, ↓orBE, ↓orBK_t, ↓orBK_f, ↓chE, ↓chK_t, ↓chK_f, ifO_t, ifO_f, ↓mVa, ↓mFz, ↓mNm, ↓mFrz, ↓mOp2, ↓mOp1, ↓f2E, ↓f1E, ↓fsE, ansO_some, ansO_none, rdAll, Hd.rd, D.flat, ↓mCons, ↓mCall, ↓mTup, ↓mLst, ↓mFrzs, dBool, dadd, dsub, dgt, dMax2, dMin2, ↓mSet, ↓mSetN, ↓mSetIx, mKindN, isKindN, mWr, beq_self_eq_true, Sl.cell, Sl.put, ↓mFrzM, argDs, argD, apartB, putMu, ↓mCallF, ↓mCallN, Hd.isNm, nmu, List.cons_append, List.nil_append, List.length_cons, List.length_nil, List.replicate_succ, List.replicate_zero, List.getElem?_cons_zero, List.getElem?_cons_succ, List.set_cons_zero, List.set_cons_succ, List.any_nil, List.any_cons, Nat.reduceAdd, Nat.reduceSub, Nat.reduceBEq, if_true, if_false, Bool.false_eq_true, ↓reduceIte, Option.bind_some, Option.map_some, Bool.or_self, Bool.false_or, Bool.or_false, Bool.true_or, Bool.or_true, List.contains_nil, List.contains_cons, Bool.and_self, Bool.not_false, Bool.not_true, Bool.true_and, Bool.and_true, Bool.false_and, decide_true, decide_false, h]
theorem qrepr_n {as : List Atm} (h4 : as.length ≤ 4) : ∃ z : Str, (f_Question___repr [qd as] = some (.ret (.str z) []) ∧ fh_Question___repr [qd as] = some (.ret (.str z) [])) ∧ ∃ r, TL.tl z = 81 :: r := by
  have f0 := fld_ok (as := as) (g := [.im (qd as)]) (i := 0) rfl
  have v := vars_ok h4
  have vh := varsH_ok h4
  have nl := nmsV_len h4
  obtain ⟨n, hn⟩ : ∃ n : Int, n = (as.length : Nat) := ⟨_, rfl⟩
  obtain ⟨m, hm⟩ : ∃ m : Int, m = ((sdL (vals as)).length : Nat) := ⟨_, rfl⟩
  have hm2 : m ≤ 8 := by rw [hm]; exact Int.ofNat_le.mpr nl
  have l1 : dLen [.tup (as.map Atm.d)] = some (.int n) := by rw [hn, dlen_t, List.length_map]
  have l2 : dLen [.tup ((sdL (vals as)).map .int)] = some (.int m) := by rw [hm, dlen_t, List.length_map]
  have e1 := fmt_gen (n := n) (by omega)
  have e2 := fmt_gen (n := m) (by omega)
  have k1 : (num n).length ≤ 5 := num_len (by omega) (by omega)
  have k2 : (num m).length ≤ 5 := num_len (by omega) (by omega)
  have a1 : ("Question(" : Str).length = 9 := by decide +kernel
  have a2 : (" atoms, " : Str).length = 8 := by decide +kernel
  have a3 : (" variables)" : Str).length = 11 := by decide +kernel
  have a0 : Str.empty.length = 0 := rfl
  have j : mJ [(M.ret (.str "Question(")), (mOp1 dFmt (mVa (mCall dLen (mCons (mVa ((mNm 0).bind (mFld [1] 0))) (M.ret []))))), (M.ret (.str " atoms, ")), (mOp1 dFmt (mVa (mCall dLen (mCons (mVa ((mCons (mVa ((mNm 0).bind (mFld [1] 0))) (M.ret [])).bind (mCallF [.im] f_variables_of))) (M.ret []))))), (M.ret (.str " variables)"))] Str.empty [.im (qd as)] =
      some (.ok (.str (Str.empty ++ "Question(" ++ num n ++ " atoms, " ++ num m ++ " variables)")) [.im (qd as)]) := by
    rw [mJ_cons (y := "Question(") rfl (by rw [a0, a1]; decide), mJ_cons (y := num n) (by simp (config := { decide := false }) only [↓runDef, gOf, slotOf, endMs, ↓seqE, ↓bindE, bindO_ok, bindO_ex, bindO_none, seqO_nx, seqO_rt, seqO_rn, seqO_bk, seqO_ct, seqO_ex, seqO_none, ↓retE, ↓failE, ↓ifE, ↓andE, ↓andK_t, ↓andK_f, ↓orE, ↓orK_t, ↓orK_f, ↓andBE, ↓andBK_t, ↓andBK_f, ↓orBE, ↓orBK_t, ↓orBK_f, ↓chE, ↓chK_t, ↓chK_f, ifO_t, ifO_f, ↓mVa, ↓mFz, ↓mNm, ↓mFrz, ↓mOp2, ↓mOp1, ↓f2E, ↓f1E, ↓fsE, ansO_some, ansO_none, rdAll, Hd.rd, D.flat, ↓mCons, ↓mCall, ↓mTup, ↓mLst, ↓mFrzs, dBool, dadd, dsub, dgt, dMax2, dMin2, ↓mSet, ↓mSetN, ↓mSetIx, mKindN, isKindN, mWr, beq_self_eq_true, Sl.cell, Sl.put, ↓mFrzM, argDs, argD, apartB, putMu, ↓mCallF, ↓mCallN, Hd.isNm, nmu, List.cons_append, List.nil_append, List.length_cons, List.length_nil, List.replicate_succ, List.replicate_zero, List.getElem?_cons_zero, List.getElem?_cons_succ, List.set_cons_zero, List.set_cons_succ, List.any_nil, List.any_cons, Nat.reduceAdd, Nat.reduceSub, Nat.reduceBEq, if_true, if_false, Bool.false_eq_true, ↓reduceIte, Option.bind_some, Option.map_some, Bool.or_self, Bool.false_or, Bool.or_false, Bool.true_or, Bool.or_true, List.contains_nil, List.contains_cons, Bool.and_self, Bool.not_false, Bool.not_true, Bool.true_and, Bool.and_true, Bool.false_and, decide_true, decide_false, f0, l1, e1]) (by simp only [len_app, a0, a1]; omega), mJ_cons (y := " atoms, ") rfl (by simp only [len_app, a0, a1, a2]; omega), mJ_cons (y := num m) (by simp (config := { decide := false }) only [↓runDef, gOf, slotOf, endMs, ↓seqE, ↓bindE, bindO_ok, bindO_ex, bindO_none, seqO_nx, seqO_rt, seqO_rn, seqO_bk, seqO_ct, seqO_ex, seqO_none, ↓retE, ↓failE, ↓ifE, ↓andE, ↓andK_t, ↓andK_f, ↓orE, ↓orK_t, ↓orK_f, ↓andBE, ↓andBK_t, ↓andBK_f, ↓orBE, ↓orBK_t, ↓orBK_f, ↓chE, ↓chK_t, ↓chK_f, ifO_t, ifO_f, ↓mVa, ↓mFz, ↓mNm, ↓mFrz, ↓mOp2, ↓mOp1, ↓f2E, ↓f1E, ↓fsE, ansO_some, ansO_none, rdAll, Hd.rd, D.flat, ↓mCons, ↓mCall, ↓mTup, ↓mLst, ↓mFrzs, dBool, dadd, dsub, dgt, dMax2, dMin2, ↓mSet, ↓mSetN, ↓mSetIx, mKindN, isKindN, mWr, beq_self_eq_true, Sl.cell, Sl.put, ↓mFrzM, argDs, argD, apartB, putMu, ↓mCallF, ↓mCallN, Hd.isNm, nmu, List.cons_append, List.nil_append, List.length_cons, List.length_nil, List.replicate_succ, List.replicate_zero, List.getElem?_cons_zero, List.getElem?_cons_succ, List.set_cons_zero, List.set_cons_succ, List.any_nil, List.any_cons, Nat.reduceAdd, Nat.reduceSub, Nat.reduceBEq, if_true, if_false, Bool.false_eq_true, ↓reduceIte, Option.bind_some, Option.map_some, Bool.or_self, Bool.false_or, Bool.or_false, Bool.true_or, Bool.or_true, List.contains_nil, List.contains_cons, Bool.and_self, Bool.not_false, Bool.not_true, Bool.true_and, Bool.and_true, Bool.false_and, decide_true, decide_false, f0, v, l2, e2]) (by simp only [len_app, a0, a1, a2]; omega), mJ_cons (y := " variables)") rfl (by simp only [len_app, a0, a1, a2, a3]; omega), mJ_nil]
  have jh : mJ [(M.ret (.str "Question(")), (mOp1 dFmt (mVa (mCall dLen (mCons (mVa ((mNm 0).bind (mFld [1] 0))) (M.ret []))))), (M.ret (.str " atoms, ")), (mOp1 dFmt (mVa (mCall dLen (mCons (mVa ((mCons (mVa ((mNm 0).bind (mFld [1] 0))) (M.ret [])).bind (mCallF [.im] fh_variables_of))) (M.ret []))))), (M.ret (.str " variables)"))] Str.empty [.im (qd as)] =
      some (.ok (.str (Str.empty ++ "Question(" ++ num n ++ " atoms, " ++ num m ++ " variables)")) [.im (qd as)]) := by
    rw [mJ_cons (y := "Question(") rfl (by rw [a0, a1]; decide), mJ_cons (y := num n) (by simp (config := { decide := false }) only [↓runDef, gOf, slotOf, endMs, ↓seqE, ↓bindE, bindO_ok, bindO_ex, bindO_none, seqO_nx, seqO_rt, seqO_rn, seqO_bk, seqO_ct, seqO_ex, seqO_none, ↓retE, ↓failE, ↓ifE, ↓andE, ↓andK_t, ↓andK_f, ↓orE, ↓orK_t, ↓orK_f, ↓andBE, ↓andBK_t, ↓andBK_f, ↓orBE, ↓orBK_t, ↓orBK_f, ↓chE, ↓chK_t, ↓chK_f, ifO_t, ifO_f, ↓mVa, ↓mFz, ↓mNm, ↓mFrz, ↓mOp2, ↓mOp1, ↓f2E, ↓f1E, ↓fsE, ansO_some, ansO_none, rdAll, Hd.rd, D.flat, ↓mCons, ↓mCall, ↓mTup, ↓mLst, ↓mFrzs, dBool, dadd, dsub, dgt, dMax2, dMin2, ↓mSet, ↓mSetN, ↓mSetIx, mKindN, isKindN, mWr, beq_self_eq_true, Sl.cell, Sl.put, ↓mFrzM, argDs, argD, apartB, putMu, ↓mCallF, ↓mCallN, Hd.isNm, nmu, List.cons_append, List.nil_append, List.length_cons, List.length_nil, List.replicate_succ, List.replicate_zero, List.getElem?_cons_zero, List.getElem?_cons_succ, List.set_cons_zero, List.set_cons_succ, List.any_nil, List.any_cons, Nat.reduceAdd, Nat.reduceSub, Nat.reduceBEq, if_true, if_false, Bool.false_eq_true, ↓reduceIte, Option.bind_some, Option.map_some, Bool.or_self, Bool.false_or, Bool.or_false, Bool.true_or, Bool.or_true, List.contains_nil, List.contains_cons, Bool.and_self, Bool.not_false, Bool.not_true, Bool.true_and, Bool.and_true, Bool.false_and, decide_true, decide_false, f0, l1, e1]) (by simp only [len_app, a0, a1]; omega), mJ_cons (y := " atoms, ") rfl (by simp only [len_app, a0, a1, a2]; omega), mJ_cons (y := num m) (by simp (config := { decide := false }) only [↓runDef, gOf, slotOf, endMs, ↓seqE, ↓bindE, bindO_ok, bindO_ex, bindO_none, seqO_nx, seqO_rt, seqO_rn, seqO_bk, seqO_ct, seqO_ex, seqO_none, ↓retE, ↓failE, ↓ifE, ↓andE, ↓andK_t, ↓andK_f, ↓orE, ↓orK_t, ↓orK_f, ↓andBE, ↓andBK_t, ↓andBK_f, ↓orBE, ↓orBK_t, ↓orBK_f, ↓chE, ↓chK_t, ↓chK_f, ifO_t, ifO_f, ↓mVa, ↓mFz, ↓mNm, ↓mFrz, ↓mOp2, ↓mOp1, ↓f2E, ↓f1E, ↓fsE, ansO_some, ansO_none, rdAll, Hd.rd, D.flat, ↓mCons, ↓mCall, ↓mTup, ↓mLst, ↓mFrzs, dBool, dadd, dsub, dgt, dMax2, dMin2, ↓mSet, ↓mSetN, ↓mSetIx, mKindN, isKindN, mWr, beq_self_eq_true, Sl.cell, Sl.put, ↓mFrzM, argDs, argD, apartB, putMu, ↓mCallF, ↓mCallN, Hd.isNm, nmu, List.cons_append, List.nil_append, List.length_cons, List.length_nil, List.replicate_succ, List.replicate_zero, List.getElem?_cons_zero, List.getElem?_cons_succ, List.set_cons_zero, List.set_cons_succ, List.any_nil, List.any_cons, Nat.reduceAdd, Nat.reduceSub, Nat.reduceBEq, if_true, if_false, Bool.false_eq_true, ↓reduceIte, Option.bind_some, Option.map_some, Bool.or_self, Bool.false_or, Bool.or_false, Bool.true_or, Bool.or_true, List.contains_nil, List.contains_cons, Bool.and_self, Bool.not_false, Bool.not_true, Bool.true_and, Bool.and_true, Bool.false_and, decide_true, decide_false, f0, vh, l2, e2]) (by simp only [len_app, a0, a1, a2]; omega), mJ_cons (y := " variables)") rfl (by simp only [len_app, a0, a1, a2, a3]; omega), mJ_nil]
  refine ⟨_, ⟨ret_gen j, ret_gen jh⟩, ?_⟩
  simp only [str_tl]
  exact ⟨_, rfl⟩
end Cq.K61

set_option Elab.async false
set_option linter.all false
set_option maxRecDepth 100000
set_option maxHeartbeats 1000000
namespace Cq.Sp
open PySem PyProof.Rows L2 Cq
structure Atm.pos (a : Atm) : Prop where
  hk : a.k = 65 ∨ a.k = 66 ∨ a.k = 67
  v0 : 0 ≤ a.v
  w0 : 0 ≤ a.w
theorem Atm.ok.pos {a : Atm} (h : a.ok) : a.pos := ⟨h.hk, h.v0, h.w0⟩
def fitA (a : Atm) : Bool := decide (a.v ≤ 9) && decide (a.w ≤ 9)
def fit (as : List Atm) : Bool := decide (1 ≤ as.length) && (decide (as.length ≤ 4) && as.all fitA)
def Atm.sh (m : Int) (a : Atm) : Atm := ⟨a.k, a.v + m, a.w + m⟩
theorem Atm.pos.sh {m : Int} (hm : 0 ≤ m) {a : Atm} (h : a.pos) : (a.sh m).pos := ⟨h.hk, by have := h.v0; simp only [Atm.sh]; omega, by have := h.w0; simp only [Atm.sh]; omega⟩
end Cq.Sp

set_option Elab.async false
set_option linter.all false
set_option maxRecDepth 100000
set_option maxHeartbeats 1000000
set_option Elab.async false
set_option linter.all false
set_option maxRecDepth 100000
set_option maxHeartbeats 1000000
set_option Elab.async false
set_option linter.all false
set_option maxRecDepth 100000
set_option maxHeartbeats 1000000
set_option Elab.async false
set_option linter.all false
set_option maxRecDepth 100000
set_option maxHeartbeats 1000000
set_option Elab.async false
set_option linter.all false
set_option maxRecDepth 100000
set_option maxHeartbeats 1000000
namespace Cq.Sp
open PySem PyProof.Rows L2 Cq
theorem rd_im {g : Gm} {i : Nat} {a : D} (h : g[i]? = some (.im a)) : Hd.rd g (.nm i) = some a := by simp only [Hd.rd, h]
theorem call1_ret {f : Fn} {g : Gm} {i : Nat} {a z : D} (hi : g[i]? = some (.im a)) (h : f [a] = some (.ret z [])) : mCallF [.im] f [.nm i] g = some (.ok z g) := by
  have r := rd_im hi
  simp (config := { decide := false }) only [↓runDef, gOf, slotOf, endMs, ↓seqE, ↓bindE, bindO_ok, bindO_ex, bindO_none, seqO_nx, seqO_rt, seqO_rn, seqO_bk, seqO_ct, seqO_ex, seqO_none, ↓retE, ↓failE, ↓ifE, ↓andE, ↓andK_t, ↓andK_f, ↓orE, ↓orK_t, ↓orK_f, ↓andBE, ↓andBK_t, ↓andBK_f, ↓orBE, ↓orBK_t, ↓orBK_f, ↓chE, ↓chK_t, ↓chK_f, ifO_t, ifO_f, ↓mVa, ↓mFz, ↓mNm, ↓mFrz, ↓mOp2, ↓mOp1, ↓f2E, ↓f1E, ↓fsE, ansO_some, ansO_none, rdAll, Hd.rd, D.flat, ↓mCons, ↓mCall, ↓mTup, ↓mLst, ↓mFrzs, dBool, dadd, dsub, dgt, dMax2, dMin2, ↓mSet, ↓mSetN, ↓mSetIx, mKindN, isKindN, mWr, beq_self_eq_true, Sl.cell, Sl.put, ↓mFrzM, argDs, argD, apartB, putMu, ↓mCallF, ↓mCallN, Hd.isNm, nmu, List.cons_append, List.nil_append, List.length_cons, List.length_nil, List.replicate_succ, List.replicate_zero, List.getElem?_cons_zero, List.getElem?_cons_succ, List.set_cons_zero, List.set_cons_succ, List.any_nil, List.any_cons, Nat.reduceAdd, Nat.reduceSub, Nat.reduceBEq, if_true, if_false, Bool.false_eq_true, ↓reduceIte, Option.bind_some, Option.map_some, Bool.or_self, Bool.false_or, Bool.or_false, Bool.true_or, Bool.or_true, List.contains_nil, List.contains_cons, Bool.and_self, Bool.not_false, Bool.not_true, Bool.true_and, Bool.and_true, Bool.false_and, decide_true, decide_false, h, r, hi]
theorem iopA_eq {c : Nat} {k : Hd → Hd → M D} {ma mb : M Hd} {g : Gm} {h h' : Hd} (h1 : ma g = some (.ok h g)) (h2 : mb g = some (.ok h' g)) (h3 : mCls [c] h g = some (.ok c g)) (h4 : mRhs c h' g = some (.ok () g)) : mIopA c k ma mb g = k h h' g := by
  unfold mIopA M.bind
  simp only [h1]
  simp only [h2, h3, h4]
theorem nm_im {g : Gm} {i : Nat} {a : D} (h : g[i]? = some (.im a)) : mNm i g = some (.ok (.nm i) g) := nmE h fun z => nomatch z
end Cq.Sp

set_option Elab.async false
set_option linter.all false
set_option maxRecDepth 100000
set_option maxHeartbeats 1000000
namespace Cq.Sp
open PySem PyProof.Rows L2 Cq
theorem ap_eqv (a b : Atm) : PyData.eqv (Ap a) (Ap b) = decide (a = b) := by
  obtain ⟨k, l, r⟩ := a
  obtain ⟨k', l', r'⟩ := b
  simp only [Ap, PyData.eqv, PyData.eqvAll, Bool.and_true]
  rw [Bool.eq_iff_iff]
  simp
theorem aps_eqv : ∀ as bs : List Atm, PyData.eqvAll (as.map Ap) (bs.map Ap) = decide (as = bs)
  | [], [] => by simp [PyData.eqvAll]
  | [], _ :: _ => by simp [PyData.eqvAll]
  | _ :: _, [] => by simp [PyData.eqvAll]
  | a :: as, b :: bs => by
    simp only [List.map_cons, PyData.eqvAll, ap_eqv, aps_eqv as bs]
    rw [Bool.eq_iff_iff]
    simp
theorem ats_shL {as : List Atm} (h : ∀ a ∈ as, a.ok) : SeqAt.shaped (.list (as.map Ap)) = true := by
  have d := dep_ap as
  simp only [SeqAt.shaped, PyData.canLay0, lay_ap as h, PyData.depth, Bool.true_and]
  exact decide_eq_true (by omega)
theorem adl_py (as : List Atm) : (D.lst (as.map Atm.d)).py = some (.list (as.map Ap)) := by simp only [D.py, ats_py, Option.map_some]
theorem eq_atL {as bs : List Atm} (ha : ∀ a ∈ as, a.ok) (hb : ∀ a ∈ bs, a.ok) : dEq (.lst (as.map Atm.d)) (.lst (bs.map Atm.d)) = some (.bl (decide (as = bs))) := by
  show dEqP (.lst (as.map Atm.d)) (.lst (bs.map Atm.d)) = _
  simp only [dEqP, adl_py]
  rw [if_pos ⟨ats_shL ha, ats_shL hb⟩]
  simp only [PyData.eqv, aps_eqv]
def ale (a b : Atm) : Bool := leD a.d b.d
theorem ale_total : PySem.W.TotalLe ale := ⟨fun a b c h1 h2 => leD_total.trans _ _ _ h1 h2, fun a b => leD_total.total _ _⟩
theorem pyd_at (a : Atm) : pyD a.d = Ap a := by unfold pyD; rw [at_py]
theorem ale_anti {a b : Atm} (h1 : ale a b = true) (h2 : ale b a = true) : a = b := by
  have e := leD_anti h1 h2
  rw [pyd_at, pyd_at, ap_toks, ap_toks] at e
  simp only [List.cons.injEq, Sum.inr.injEq, Sum.inl.injEq, true_and, and_true] at e
  obtain ⟨ak, av, aw⟩ := a
  obtain ⟨bk, bv, bw⟩ := b
  simp only at e
  rw [e.1, e.2.1, e.2.2]
def asrt (as : List Atm) : List Atm := as.mergeSort ale
theorem asrt_perm (as : List Atm) : (asrt as).Perm as := List.mergeSort_perm as ale
theorem asrt_eq {as bs : List Atm} (h : as.Perm bs) : asrt as = asrt bs :=
  List.Perm.eq_of_pairwise (le := fun a b => ale a b = true) (fun a b _ _ h1 h2 => ale_anti h1 h2) (PySem.W.sort_pairwise ale_total as) (PySem.W.sort_pairwise ale_total bs) ((asrt_perm as).trans (h.trans (asrt_perm bs).symm))
theorem asrt_iff {as bs : List Atm} : asrt as = asrt bs ↔ as.Perm bs := ⟨fun h => (asrt_perm as).symm.trans (h ▸ asrt_perm bs), asrt_eq⟩
theorem asrt_ok {as : List Atm} (h : ∀ a ∈ as, a.ok) : ∀ a ∈ asrt as, a.ok := fun a ha => h a ((asrt_perm as).mem_iff.mp ha)
theorem sorted_at {q : D} {as : List Atm} (hq : Seq q (as.map Atm.d)) (hl : as.length ≤ 1000000) : dSorted [q] = some (.lst ((asrt as).map Atm.d)) := by
  have s : sortB (as.map Ap) = true := by
    simp only [sortB, alikeB, Bool.and_eq_true, Bool.or_eq_true, List.all_eq_true, List.all_map, Function.comp, decide_eq_true_eq]
    refine ⟨⟨fun a _ b _ => ?_, .inl fun a _ => rfl⟩, fun a _ => ?_⟩
    · simp [Ap, PySem.W.alike, PySem.W.alikeAll]
    · simp [Ap, PyData.depth, PyData.depthAll]
  have e : dSortL (as.map Atm.d) = some ((asrt as).map Atm.d) := by
    simp only [dSortL, ats_py]
    rw [if_pos ⟨s, by simpa using hl⟩]
    congr 1
    exact (PySem.W.sort_maps (r := ale) (s := leD) Atm.d (l := as) fun a _ b _ => rfl).symm
  rcases hq with rfl | rfl <;> simp only [dSorted, e, Option.map_some]
theorem qeq_gen {fa fb A B SA SB r : D} {q1 q2 : D} {m0 m1 : Hd → M D} {is : M D} (h0 : is [.im q1, .im q2] = some (.ok (.bl true) [.im q1, .im q2])) (h1 : m0 (.nm 0) [.im q1, .im q2] = some (.ok A [.im q1, .im q2])) (h2 : m1 (.nm 1) [.im q1, .im q2] = some (.ok B [.im q1, .im q2])) (s1 : dSorted [A] = some SA) (s2 : dSorted [B] = some SB) (e : dEq SA SB = some r) :
    runDef [.im, .im] 2 ((mAndD is (mOp2 dEq (mVa (mCall dSorted (mCons (mVa ((mNm 0).bind m0)) (M.ret [])))) (mVa (mCall dSorted (mCons (mVa ((mNm 1).bind m1)) (M.ret [])))))).bind fun d => M.ret (.rt d)) [q1, q2] = some (.ret r []) := by
  simp (config := { decide := false }) only [↓runDef, gOf, slotOf, endMs, ↓seqE, ↓bindE, bindO_ok, bindO_ex, bindO_none, seqO_nx, seqO_rt, seqO_rn, seqO_bk, seqO_ct, seqO_ex, seqO_none, ↓retE, ↓failE, ↓ifE, ↓andE, ↓andK_t, ↓andK_f, ↓orE, ↓orK_t, ↓orK_f, ↓andBE, ↓andBK_t, ↓andBK_f, ↓orBE, ↓orBK_t, ↓orBK_f, ↓chE, ↓chK_t, ↓chK_f, ifO_t, ifO_f, ↓mVa, ↓mFz, ↓mNm, ↓mFrz, ↓mOp2, ↓mOp1, ↓f2E, ↓f1E, ↓fsE, ansO_some, ansO_none, rdAll, Hd.rd, D.flat, ↓mCons, ↓mCall, ↓mTup, ↓mLst, ↓mFrzs, dBool, dadd, dsub, dgt, dMax2, dMin2, ↓mSet, ↓mSetN, ↓mSetIx, mKindN, isKindN, mWr, beq_self_eq_true, Sl.cell, Sl.put, ↓mFrzM, argDs, argD, apartB, putMu, ↓mCallF, ↓mCallN, Hd.isNm, nmu, List.cons_append, List.nil_append, List.length_cons, List.length_nil, List.replicate_succ, List.replicate_zero, List.getElem?_cons_zero, List.getElem?_cons_succ, List.set_cons_zero, List.set_cons_succ, List.any_nil, List.any_cons, Nat.reduceAdd, Nat.reduceSub, Nat.reduceBEq, if_true, if_false, Bool.false_eq_true, ↓reduceIte, Option.bind_some, Option.map_some, Bool.or_self, Bool.false_or, Bool.or_false, Bool.true_or, Bool.or_true, List.contains_nil, List.contains_cons, Bool.and_self, Bool.not_false, Bool.not_true, Bool.true_and, Bool.and_true, Bool.false_and, decide_true, decide_false, h0, h1, h2, s1, s2, e]
theorem qeq_n {as bs : List Atm} (ha : ∀ a ∈ as, a.ok) (hb : ∀ a ∈ bs, a.ok) (h4 : as.length ≤ 100) (hb4 : bs.length ≤ 100) : f_Question___eq [qd as, qd bs] = some (.ret (.bl (decide (as.Perm bs))) []) := by
  have e := eq_atL (asrt_ok ha) (asrt_ok hb)
  rw [show decide (asrt as = asrt bs) = decide (as.Perm bs) from decide_eq_decide.mpr asrt_iff] at e
  exact qeq_gen (fa := .non) (fb := .non) (is := mIsi [0, 1] (.cls 1) (mNm 1)) rfl (fld_ok rfl) (fld_ok rfl) (sorted_at (.inr rfl) (by omega)) (sorted_at (.inr rfl) (by omega)) e
end Cq.Sp

set_option Elab.async false
set_option linter.all false
set_option maxRecDepth 100000
set_option maxHeartbeats 1000000
set_option Elab.async false
set_option linter.all false
set_option maxRecDepth 100000
set_option maxHeartbeats 1000000
set_option Elab.async false
set_option linter.all false
set_option maxRecDepth 100000
set_option maxHeartbeats 1000000
namespace Cq.Sp
open PySem PyProof.Rows L2 Cq
theorem kind_r {k : Nat} (h : k = 65 ∨ k = 66 ∨ k = 67) : (reprText ⟨#[k]⟩).length ≤ 3 := by
  rcases h with rfl | rfl | rfl <;> decide +kernel
theorem shw_a {a : Atm} (h : a.ok) {k : Nat} : Shw a.d 62 (k + 1) := by
  show Shw (.tup [.str ⟨#[a.k]⟩, .int a.v, .int a.w]) 62 (k + 1)
  exact .tup (.cons (.str (kind_r h.hk)) (.cons (.int (by have := h.v0; have := h.v1; omega)) (.cons (.int (by have := h.w0; have := h.w1; omega)) .nil)))
theorem shw_t {as : List Atm} (h : ∀ a ∈ as, a.ok) (h4 : as.length ≤ 4) : ∃ n, n ≤ 400 ∧ Shw (.tup (as.map Atm.d)) n 3 :=
  ⟨as.length * (62 + 2) + 3, by omega, .tup (Shws.map fun a ha => shw_a (h a ha))⟩
end Cq.Sp
set_option Elab.async false
set_option linter.all false
set_option maxRecDepth 100000
set_option maxHeartbeats 2000000
namespace Cq.K61
open PySem PyProof.Rows L2 Cq Cq.Sp Cq.S6
structure Tx (n : Nat) (x : Str) : Prop where
  len : x.length ≤ n
  asc : ∀ c ∈ TL.tl x, c < 128
theorem Tx.mono {n m : Nat} {x : Str} (h : Tx n x) (l : n ≤ m) : Tx m x := ⟨Nat.le_trans h.len l, h.asc⟩
theorem word_len {n : Nat} {x : Str} (h : Tx n x) : ∀ p ∈ Txt.split x " ", p.length ≤ n := by
  intro p hp
  have := split_len x sp_tl (by decide)
  have := sum_mem hp
  have : 1 ≤ (Txt.split x " ").length := List.length_pos_iff.mpr (split_ne x sp_tl (by decide))
  have := h.len
  omega
theorem words_cnt {n : Nat} {x : Str} (h : Tx n x) : (Txt.split x " ").length ≤ n + 1 := by
  have := split_len x sp_tl (by decide)
  have := h.len
  omega
def isDig (c : Nat) : Bool := decide (48 ≤ c ∧ c ≤ 57)
def isKc (c : Nat) : Bool := decide (65 ≤ c ∧ c ≤ 67)
theorem in_dig (c : Nat) : dNotIn (.str ⟨#[c]⟩) (.str "0123456789") = some (.bl (!isDig c)) := by
  have o : oneSign ⟨#[c]⟩ = some c := rfl
  have e : ("0123456789" : Str).cps.toList = [48, 49, 50, 51, 52, 53, 54, 55, 56, 57] := by decide +kernel
  simp only [dNotIn, dIn, o, e]
  congr 3
  unfold isDig
  rw [Bool.eq_iff_iff]
  simp only [decide_eq_true_eq, List.mem_cons, List.not_mem_nil, or_false]
  omega
theorem in_cab (c : Nat) : dNotIn (.str ⟨#[c]⟩) (.str "CAB") = some (.bl (!isKc c)) := by
  have o : oneSign ⟨#[c]⟩ = some c := rfl
  have e : ("CAB" : Str).cps.toList = [67, 65, 66] := by decide +kernel
  simp only [dNotIn, dIn, o, e]
  congr 3
  unfold isKc
  rw [Bool.eq_iff_iff]
  simp only [decide_eq_true_eq, List.mem_cons, List.not_mem_nil, or_false]
  omega
theorem one_kind (c : Nat) : decide ((⟨#[c]⟩ : Str) ∈ kinds) = isKc c := by
  have ka : ("A" : Str) = ⟨#[65]⟩ := by decide +kernel
  have kb : ("B" : Str) = ⟨#[66]⟩ := by decide +kernel
  have kc : ("C" : Str) = ⟨#[67]⟩ := by decide +kernel
  unfold isKc kinds
  rw [Bool.eq_iff_iff, ka, kb, kc]
  simp only [decide_eq_true_eq, List.mem_cons, List.not_mem_nil, or_false, Str.mk.injEq, Array.mk.injEq, List.cons.injEq, and_true]
  omega
theorem kind_c (c : Nat) : f_is_kind [.str ⟨#[c]⟩] = some (.ret (.bl (isKc c)) []) := by
  rw [Sp.kind_ok (d := .str ⟨#[c]⟩) rfl]
  exact congrArg (fun b => some (FR.ret (D.bl b) [])) (one_kind c)
theorem dig_int {c : Nat} (h : isDig c = true) : ∃ v : Int, (0 ≤ v ∧ v ≤ 9) ∧ c = 48 + v.toNat := by
  have := of_decide_eq_true h
  exact ⟨((c - 48 : Nat) : Int), by omega, by omega⟩
/-- a word is an atom's, or it is none by the program and by the law -/
def Bad (w : Str) : Prop := (∃ d, f_atom_of_word [.str w] = some (.ret d []) ∧ f_is_atom [d] = some (.ret (.bl false) [])) ∧ ∀ g : Gm, g[2]? = some (.im (.str w)) → b_x_law_read_1 g = some (.ok (.rt .non) g)
theorem len_w {w : Str} (h : w.length ≤ 1000000) : dLen [.str w] = some (.int (w.length : Nat)) := by simp only [dLen]; rw [if_pos h]
theorem nil_atom : f_is_atom [.tup []] = some (.ret (.bl false) []) := by
  unfold f_is_atom m_is_atom
  have l : dLen [.tup []] = some (.int 0) := rfl
  have n : dNe (.int 0) (.int 3) = some (.bl true) := rfl
  simp (config := { decide := false }) only [↓runDef, gOf, slotOf, endMs, ↓seqE, ↓bindE, bindO_ok, bindO_ex, bindO_none, seqO_nx, seqO_rt, seqO_rn, seqO_bk, seqO_ct, seqO_ex, seqO_none, ↓retE, ↓failE, ↓ifE, ↓andE, ↓andK_t, ↓andK_f, ↓orE, ↓orK_t, ↓orK_f, ↓andBE, ↓andBK_t, ↓andBK_f, ↓orBE, ↓orBK_t, ↓orBK_f, ↓chE, ↓chK_t, ↓chK_f, ifO_t, ifO_f, ↓mVa, ↓mFz, ↓mNm, ↓mFrz, ↓mOp2, ↓mOp1, ↓f2E, ↓f1E, ↓fsE, ansO_some, ansO_none, rdAll, Hd.rd, D.flat, ↓mCons, ↓mCall, ↓mTup, ↓mLst, ↓mFrzs, dBool, dadd, dsub, dgt, dMax2, dMin2, ↓mSet, ↓mSetN, ↓mSetIx, mKindN, isKindN, mWr, beq_self_eq_true, Sl.cell, Sl.put, ↓mFrzM, argDs, argD, apartB, putMu, ↓mCallF, ↓mCallN, Hd.isNm, nmu, List.cons_append, List.nil_append, List.length_cons, List.length_nil, List.replicate_succ, List.replicate_zero, List.getElem?_cons_zero, List.getElem?_cons_succ, List.set_cons_zero, List.set_cons_succ, List.any_nil, List.any_cons, Nat.reduceAdd, Nat.reduceSub, Nat.reduceBEq, if_true, if_false, Bool.false_eq_true, ↓reduceIte, Option.bind_some, Option.map_some, Bool.or_self, Bool.false_or, Bool.or_false, Bool.true_or, Bool.or_true, List.contains_nil, List.contains_cons, Bool.and_self, Bool.not_false, Bool.not_true, Bool.true_and, Bool.and_true, Bool.false_and, decide_true, decide_false, mIsi, dIsi, isTy, l, n]
theorem three {w : Str} (h : w.length = 3) : ∃ a b c : Nat, w = ⟨#[a, b, c]⟩ := by
  obtain ⟨⟨l⟩⟩ := w
  have h : l.length = 3 := h
  match l, h with
  | [a, b, c], _ => exact ⟨a, b, c, rfl⟩
theorem ne3_gen {n : Int} (h : n ≠ 3) : dNe (.int n) (.int 3) = some (.bl true) := by
  rw [dne_int, decide_eq_true h]
theorem bad_len {w : Str} (hw : w.length ≤ 1000000) (h : w.length ≠ 3) : Bad w := by
  have l := len_w hw
  have n := ne3_gen (n := (w.length : Nat)) (by omega)
  generalize ((w.length : Nat) : Int) = m at l n
  refine ⟨⟨.tup [], ?_, nil_atom⟩, fun g hg => ?_⟩
  · unfold f_atom_of_word m_atom_of_word
    simp (config := { decide := false }) only [↓runDef, gOf, slotOf, endMs, ↓seqE, ↓bindE, bindO_ok, bindO_ex, bindO_none, seqO_nx, seqO_rt, seqO_rn, seqO_bk, seqO_ct, seqO_ex, seqO_none, ↓retE, ↓failE, ↓ifE, ↓andE, ↓andK_t, ↓andK_f, ↓orE, ↓orK_t, ↓orK_f, ↓andBE, ↓andBK_t, ↓andBK_f, ↓orBE, ↓orBK_t, ↓orBK_f, ↓chE, ↓chK_t, ↓chK_f, ifO_t, ifO_f, ↓mVa, ↓mFz, ↓mNm, ↓mFrz, ↓mOp2, ↓mOp1, ↓f2E, ↓f1E, ↓fsE, ansO_some, ansO_none, rdAll, Hd.rd, D.flat, ↓mCons, ↓mCall, ↓mTup, ↓mLst, ↓mFrzs, dBool, dadd, dsub, dgt, dMax2, dMin2, ↓mSet, ↓mSetN, ↓mSetIx, mKindN, isKindN, mWr, beq_self_eq_true, Sl.cell, Sl.put, ↓mFrzM, argDs, argD, apartB, putMu, ↓mCallF, ↓mCallN, Hd.isNm, nmu, List.cons_append, List.nil_append, List.length_cons, List.length_nil, List.replicate_succ, List.replicate_zero, List.getElem?_cons_zero, List.getElem?_cons_succ, List.set_cons_zero, List.set_cons_succ, List.any_nil, List.any_cons, Nat.reduceAdd, Nat.reduceSub, Nat.reduceBEq, if_true, if_false, Bool.false_eq_true, ↓reduceIte, Option.bind_some, Option.map_some, Bool.or_self, Bool.false_or, Bool.or_false, Bool.true_or, Bool.or_true, List.contains_nil, List.contains_cons, Bool.and_self, Bool.not_false, Bool.not_true, Bool.true_and, Bool.and_true, Bool.false_and, decide_true, decide_false, lit0, l, n]
  · have nn : mNm 2 g = some (.ok (.nm 2) g) := nmE hg fun z => nomatch z
    unfold b_x_law_read_1
    simp (config := { decide := false }) only [↓runDef, gOf, slotOf, endMs, ↓seqE, ↓bindE, bindO_ok, bindO_ex, bindO_none, seqO_nx, seqO_rt, seqO_rn, seqO_bk, seqO_ct, seqO_ex, seqO_none, ↓retE, ↓failE, ↓ifE, ↓andE, ↓andK_t, ↓andK_f, ↓orE, ↓orK_t, ↓orK_f, ↓andBE, ↓andBK_t, ↓andBK_f, ↓orBE, ↓orBK_t, ↓orBK_f, ↓chE, ↓chK_t, ↓chK_f, ifO_t, ifO_f, ↓mVa, ↓mFz, ↓mNm, ↓mFrz, ↓mOp2, ↓mOp1, ↓f2E, ↓f1E, ↓fsE, ansO_some, ansO_none, rdAll, Hd.rd, D.flat, ↓mCons, ↓mCall, ↓mTup, ↓mLst, ↓mFrzs, dBool, dadd, dsub, dgt, dMax2, dMin2, ↓mSet, ↓mSetN, ↓mSetIx, mKindN, isKindN, mWr, beq_self_eq_true, Sl.cell, Sl.put, ↓mFrzM, argDs, argD, apartB, putMu, ↓mCallF, ↓mCallN, Hd.isNm, nmu, List.cons_append, List.nil_append, List.length_cons, List.length_nil, List.replicate_succ, List.replicate_zero, List.getElem?_cons_zero, List.getElem?_cons_succ, List.set_cons_zero, List.set_cons_succ, List.any_nil, List.any_cons, Nat.reduceAdd, Nat.reduceSub, Nat.reduceBEq, if_true, if_false, Bool.false_eq_true, ↓reduceIte, Option.bind_some, Option.map_some, Bool.or_self, Bool.false_or, Bool.or_false, Bool.true_or, Bool.or_true, List.contains_nil, List.contains_cons, Bool.and_self, Bool.not_false, Bool.not_true, Bool.true_and, Bool.and_true, Bool.false_and, decide_true, decide_false, nn, hg, l, n]
theorem word_any {w : Str} (hw : w.length ≤ 1000000) : (∃ a : Atm, a.ok ∧ w = a.wd) ∨ Bad w := by
  by_cases h : w.length = 3
  · obtain ⟨a, b, c, rfl⟩ := three h
    have l : dLen [.str ⟨#[a, b, c]⟩] = some (.int 3) := rfl
    have i0 : dIx (.str ⟨#[a, b, c]⟩) (.int 0) = some (.str ⟨#[a]⟩) := rfl
    have i1 : dIx (.str ⟨#[a, b, c]⟩) (.int 1) = some (.str ⟨#[b]⟩) := rfl
    have i2 : dIx (.str ⟨#[a, b, c]⟩) (.int 2) = some (.str ⟨#[c]⟩) := rfl
    have n := n33
    have qa := in_cab a
    have qb := in_dig b
    have qc := in_dig c
    cases hb : isDig b with
    | false =>
      rw [hb] at qb
      refine .inr ⟨⟨.tup [], ?_, nil_atom⟩, fun g hg => ?_⟩
      · unfold f_atom_of_word m_atom_of_word
        simp (config := { decide := false }) only [↓runDef, gOf, slotOf, endMs, ↓seqE, ↓bindE, bindO_ok, bindO_ex, bindO_none, seqO_nx, seqO_rt, seqO_rn, seqO_bk, seqO_ct, seqO_ex, seqO_none, ↓retE, ↓failE, ↓ifE, ↓andE, ↓andK_t, ↓andK_f, ↓orE, ↓orK_t, ↓orK_f, ↓andBE, ↓andBK_t, ↓andBK_f, ↓orBE, ↓orBK_t, ↓orBK_f, ↓chE, ↓chK_t, ↓chK_f, ifO_t, ifO_f, ↓mVa, ↓mFz, ↓mNm, ↓mFrz, ↓mOp2, ↓mOp1, ↓f2E, ↓f1E, ↓fsE, ansO_some, ansO_none, rdAll, Hd.rd, D.flat, ↓mCons, ↓mCall, ↓mTup, ↓mLst, ↓mFrzs, dBool, dadd, dsub, dgt, dMax2, dMin2, ↓mSet, ↓mSetN, ↓mSetIx, mKindN, isKindN, mWr, beq_self_eq_true, Sl.cell, Sl.put, ↓mFrzM, argDs, argD, apartB, putMu, ↓mCallF, ↓mCallN, Hd.isNm, nmu, List.cons_append, List.nil_append, List.length_cons, List.length_nil, List.replicate_succ, List.replicate_zero, List.getElem?_cons_zero, List.getElem?_cons_succ, List.set_cons_zero, List.set_cons_succ, List.any_nil, List.any_cons, Nat.reduceAdd, Nat.reduceSub, Nat.reduceBEq, if_true, if_false, Bool.false_eq_true, ↓reduceIte, Option.bind_some, Option.map_some, Bool.or_self, Bool.false_or, Bool.or_false, Bool.true_or, Bool.or_true, List.contains_nil, List.contains_cons, Bool.and_self, Bool.not_false, Bool.not_true, Bool.true_and, Bool.and_true, Bool.false_and, decide_true, decide_false, lit0, l, n, i1, qb]
      · have nn : mNm 2 g = some (.ok (.nm 2) g) := nmE hg fun z => nomatch z
        unfold b_x_law_read_1
        cases ha : isKc a <;> rw [ha] at qa <;> simp (config := { decide := false }) only [↓runDef, gOf, slotOf, endMs, ↓seqE, ↓bindE, bindO_ok, bindO_ex, bindO_none, seqO_nx, seqO_rt, seqO_rn, seqO_bk, seqO_ct, seqO_ex, seqO_none, ↓retE, ↓failE, ↓ifE, ↓andE, ↓andK_t, ↓andK_f, ↓orE, ↓orK_t, ↓orK_f, ↓andBE, ↓andBK_t, ↓andBK_f, ↓orBE, ↓orBK_t, ↓orBK_f, ↓chE, ↓chK_t, ↓chK_f, ifO_t, ifO_f, ↓mVa, ↓mFz, ↓mNm, ↓mFrz, ↓mOp2, ↓mOp1, ↓f2E, ↓f1E, ↓fsE, ansO_some, ansO_none, rdAll, Hd.rd, D.flat, ↓mCons, ↓mCall, ↓mTup, ↓mLst, ↓mFrzs, dBool, dadd, dsub, dgt, dMax2, dMin2, ↓mSet, ↓mSetN, ↓mSetIx, mKindN, isKindN, mWr, beq_self_eq_true, Sl.cell, Sl.put, ↓mFrzM, argDs, argD, apartB, putMu, ↓mCallF, ↓mCallN, Hd.isNm, nmu, List.cons_append, List.nil_append, List.length_cons, List.length_nil, List.replicate_succ, List.replicate_zero, List.getElem?_cons_zero, List.getElem?_cons_succ, List.set_cons_zero, List.set_cons_succ, List.any_nil, List.any_cons, Nat.reduceAdd, Nat.reduceSub, Nat.reduceBEq, if_true, if_false, Bool.false_eq_true, ↓reduceIte, Option.bind_some, Option.map_some, Bool.or_self, Bool.false_or, Bool.or_false, Bool.true_or, Bool.or_true, List.contains_nil, List.contains_cons, Bool.and_self, Bool.not_false, Bool.not_true, Bool.true_and, Bool.and_true, Bool.false_and, decide_true, decide_false, nn, hg, l, n, i0, i1, qa, qb]
    | true =>
      rw [hb] at qb
      cases hc : isDig c with
      | false =>
        rw [hc] at qc
        refine .inr ⟨⟨.tup [], ?_, nil_atom⟩, fun g hg => ?_⟩
        · unfold f_atom_of_word m_atom_of_word
          simp (config := { decide := false }) only [↓runDef, gOf, slotOf, endMs, ↓seqE, ↓bindE, bindO_ok, bindO_ex, bindO_none, seqO_nx, seqO_rt, seqO_rn, seqO_bk, seqO_ct, seqO_ex, seqO_none, ↓retE, ↓failE, ↓ifE, ↓andE, ↓andK_t, ↓andK_f, ↓orE, ↓orK_t, ↓orK_f, ↓andBE, ↓andBK_t, ↓andBK_f, ↓orBE, ↓orBK_t, ↓orBK_f, ↓chE, ↓chK_t, ↓chK_f, ifO_t, ifO_f, ↓mVa, ↓mFz, ↓mNm, ↓mFrz, ↓mOp2, ↓mOp1, ↓f2E, ↓f1E, ↓fsE, ansO_some, ansO_none, rdAll, Hd.rd, D.flat, ↓mCons, ↓mCall, ↓mTup, ↓mLst, ↓mFrzs, dBool, dadd, dsub, dgt, dMax2, dMin2, ↓mSet, ↓mSetN, ↓mSetIx, mKindN, isKindN, mWr, beq_self_eq_true, Sl.cell, Sl.put, ↓mFrzM, argDs, argD, apartB, putMu, ↓mCallF, ↓mCallN, Hd.isNm, nmu, List.cons_append, List.nil_append, List.length_cons, List.length_nil, List.replicate_succ, List.replicate_zero, List.getElem?_cons_zero, List.getElem?_cons_succ, List.set_cons_zero, List.set_cons_succ, List.any_nil, List.any_cons, Nat.reduceAdd, Nat.reduceSub, Nat.reduceBEq, if_true, if_false, Bool.false_eq_true, ↓reduceIte, Option.bind_some, Option.map_some, Bool.or_self, Bool.false_or, Bool.or_false, Bool.true_or, Bool.or_true, List.contains_nil, List.contains_cons, Bool.and_self, Bool.not_false, Bool.not_true, Bool.true_and, Bool.and_true, Bool.false_and, decide_true, decide_false, lit0, l, n, i1, i2, qb, qc]
        · have nn : mNm 2 g = some (.ok (.nm 2) g) := nmE hg fun z => nomatch z
          unfold b_x_law_read_1
          cases ha : isKc a <;> rw [ha] at qa <;> simp (config := { decide := false }) only [↓runDef, gOf, slotOf, endMs, ↓seqE, ↓bindE, bindO_ok, bindO_ex, bindO_none, seqO_nx, seqO_rt, seqO_rn, seqO_bk, seqO_ct, seqO_ex, seqO_none, ↓retE, ↓failE, ↓ifE, ↓andE, ↓andK_t, ↓andK_f, ↓orE, ↓orK_t, ↓orK_f, ↓andBE, ↓andBK_t, ↓andBK_f, ↓orBE, ↓orBK_t, ↓orBK_f, ↓chE, ↓chK_t, ↓chK_f, ifO_t, ifO_f, ↓mVa, ↓mFz, ↓mNm, ↓mFrz, ↓mOp2, ↓mOp1, ↓f2E, ↓f1E, ↓fsE, ansO_some, ansO_none, rdAll, Hd.rd, D.flat, ↓mCons, ↓mCall, ↓mTup, ↓mLst, ↓mFrzs, dBool, dadd, dsub, dgt, dMax2, dMin2, ↓mSet, ↓mSetN, ↓mSetIx, mKindN, isKindN, mWr, beq_self_eq_true, Sl.cell, Sl.put, ↓mFrzM, argDs, argD, apartB, putMu, ↓mCallF, ↓mCallN, Hd.isNm, nmu, List.cons_append, List.nil_append, List.length_cons, List.length_nil, List.replicate_succ, List.replicate_zero, List.getElem?_cons_zero, List.getElem?_cons_succ, List.set_cons_zero, List.set_cons_succ, List.any_nil, List.any_cons, Nat.reduceAdd, Nat.reduceSub, Nat.reduceBEq, if_true, if_false, Bool.false_eq_true, ↓reduceIte, Option.bind_some, Option.map_some, Bool.or_self, Bool.false_or, Bool.or_false, Bool.true_or, Bool.or_true, List.contains_nil, List.contains_cons, Bool.and_self, Bool.not_false, Bool.not_true, Bool.true_and, Bool.and_true, Bool.false_and, decide_true, decide_false, nn, hg, l, n, i0, i1, i2, qa, qb, qc]
      | true =>
        rw [hc] at qc
        obtain ⟨v, ⟨v0, v1⟩, rfl⟩ := dig_int hb
        obtain ⟨u, ⟨u0, u1⟩, rfl⟩ := dig_int hc
        cases ha : isKc a with
        | true =>
          refine .inl ⟨⟨a, v, u⟩, ⟨?_, v0, v1, u0, u1⟩, rfl⟩
          have := of_decide_eq_true ha
          show a = 65 ∨ a = 66 ∨ a = 67
          omega
        | false =>
          rw [ha] at qa
          have k := kind_c a
          rw [ha] at k
          refine .inr ⟨⟨.tup [.str ⟨#[a]⟩, .int v, .int u], ?_, ?_⟩, fun g hg => ?_⟩
          · unfold f_atom_of_word m_atom_of_word
            simp (config := { decide := false }) only [↓runDef, gOf, slotOf, endMs, ↓seqE, ↓bindE, bindO_ok, bindO_ex, bindO_none, seqO_nx, seqO_rt, seqO_rn, seqO_bk, seqO_ct, seqO_ex, seqO_none, ↓retE, ↓failE, ↓ifE, ↓andE, ↓andK_t, ↓andK_f, ↓orE, ↓orK_t, ↓orK_f, ↓andBE, ↓andBK_t, ↓andBK_f, ↓orBE, ↓orBK_t, ↓orBK_f, ↓chE, ↓chK_t, ↓chK_f, ifO_t, ifO_f, ↓mVa, ↓mFz, ↓mNm, ↓mFrz, ↓mOp2, ↓mOp1, ↓f2E, ↓f1E, ↓fsE, ansO_some, ansO_none, rdAll, Hd.rd, D.flat, ↓mCons, ↓mCall, ↓mTup, ↓mLst, ↓mFrzs, dBool, dadd, dsub, dgt, dMax2, dMin2, ↓mSet, ↓mSetN, ↓mSetIx, mKindN, isKindN, mWr, beq_self_eq_true, Sl.cell, Sl.put, ↓mFrzM, argDs, argD, apartB, putMu, ↓mCallF, ↓mCallN, Hd.isNm, nmu, List.cons_append, List.nil_append, List.length_cons, List.length_nil, List.replicate_succ, List.replicate_zero, List.getElem?_cons_zero, List.getElem?_cons_succ, List.set_cons_zero, List.set_cons_succ, List.any_nil, List.any_cons, Nat.reduceAdd, Nat.reduceSub, Nat.reduceBEq, if_true, if_false, Bool.false_eq_true, ↓reduceIte, Option.bind_some, Option.map_some, Bool.or_self, Bool.false_or, Bool.or_false, Bool.true_or, Bool.or_true, List.contains_nil, List.contains_cons, Bool.and_self, Bool.not_false, Bool.not_true, Bool.true_and, Bool.and_true, Bool.false_and, decide_true, decide_false, lit0, l, n, i0, i1, i2, qb, qc, int_dig v0 v1, int_dig u0 u1, lit3]
          · unfold f_is_atom m_is_atom
            simp (config := { decide := false }) only [↓runDef, gOf, slotOf, endMs, ↓seqE, ↓bindE, bindO_ok, bindO_ex, bindO_none, seqO_nx, seqO_rt, seqO_rn, seqO_bk, seqO_ct, seqO_ex, seqO_none, ↓retE, ↓failE, ↓ifE, ↓andE, ↓andK_t, ↓andK_f, ↓orE, ↓orK_t, ↓orK_f, ↓andBE, ↓andBK_t, ↓andBK_f, ↓orBE, ↓orBK_t, ↓orBK_f, ↓chE, ↓chK_t, ↓chK_f, ifO_t, ifO_f, ↓mVa, ↓mFz, ↓mNm, ↓mFrz, ↓mOp2, ↓mOp1, ↓f2E, ↓f1E, ↓fsE, ansO_some, ansO_none, rdAll, Hd.rd, D.flat, ↓mCons, ↓mCall, ↓mTup, ↓mLst, ↓mFrzs, dBool, dadd, dsub, dgt, dMax2, dMin2, ↓mSet, ↓mSetN, ↓mSetIx, mKindN, isKindN, mWr, beq_self_eq_true, Sl.cell, Sl.put, ↓mFrzM, argDs, argD, apartB, putMu, ↓mCallF, ↓mCallN, Hd.isNm, nmu, List.cons_append, List.nil_append, List.length_cons, List.length_nil, List.replicate_succ, List.replicate_zero, List.getElem?_cons_zero, List.getElem?_cons_succ, List.set_cons_zero, List.set_cons_succ, List.any_nil, List.any_cons, Nat.reduceAdd, Nat.reduceSub, Nat.reduceBEq, if_true, if_false, Bool.false_eq_true, ↓reduceIte, Option.bind_some, Option.map_some, Bool.or_self, Bool.false_or, Bool.or_false, Bool.true_or, Bool.or_true, List.contains_nil, List.contains_cons, Bool.and_self, Bool.not_false, Bool.not_true, Bool.true_and, Bool.and_true, Bool.false_and, decide_true, decide_false, mIsi, dIsi, isTy, tlen3, tix0, k, n33]
          · have nn : mNm 2 g = some (.ok (.nm 2) g) := nmE hg fun z => nomatch z
            unfold b_x_law_read_1
            simp (config := { decide := false }) only [↓runDef, gOf, slotOf, endMs, ↓seqE, ↓bindE, bindO_ok, bindO_ex, bindO_none, seqO_nx, seqO_rt, seqO_rn, seqO_bk, seqO_ct, seqO_ex, seqO_none, ↓retE, ↓failE, ↓ifE, ↓andE, ↓andK_t, ↓andK_f, ↓orE, ↓orK_t, ↓orK_f, ↓andBE, ↓andBK_t, ↓andBK_f, ↓orBE, ↓orBK_t, ↓orBK_f, ↓chE, ↓chK_t, ↓chK_f, ifO_t, ifO_f, ↓mVa, ↓mFz, ↓mNm, ↓mFrz, ↓mOp2, ↓mOp1, ↓f2E, ↓f1E, ↓fsE, ansO_some, ansO_none, rdAll, Hd.rd, D.flat, ↓mCons, ↓mCall, ↓mTup, ↓mLst, ↓mFrzs, dBool, dadd, dsub, dgt, dMax2, dMin2, ↓mSet, ↓mSetN, ↓mSetIx, mKindN, isKindN, mWr, beq_self_eq_true, Sl.cell, Sl.put, ↓mFrzM, argDs, argD, apartB, putMu, ↓mCallF, ↓mCallN, Hd.isNm, nmu, List.cons_append, List.nil_append, List.length_cons, List.length_nil, List.replicate_succ, List.replicate_zero, List.getElem?_cons_zero, List.getElem?_cons_succ, List.set_cons_zero, List.set_cons_succ, List.any_nil, List.any_cons, Nat.reduceAdd, Nat.reduceSub, Nat.reduceBEq, if_true, if_false, Bool.false_eq_true, ↓reduceIte, Option.bind_some, Option.map_some, Bool.or_self, Bool.false_or, Bool.or_false, Bool.true_or, Bool.or_true, List.contains_nil, List.contains_cons, Bool.and_self, Bool.not_false, Bool.not_true, Bool.true_and, Bool.and_true, Bool.false_and, decide_true, decide_false, nn, hg, l, n, i0, qa]
  · exact .inr (bad_len hw h)
end Cq.K61

set_option Elab.async false
set_option linter.all false
set_option maxRecDepth 100000
set_option maxHeartbeats 2000000
namespace Cq.K61
open PySem PyProof.Rows L2 Cq Cq.Sp Cq.S6
open Classical in
noncomputable def gdw (w : Str) : Bool := decide (∃ a : Atm, a.ok ∧ w = a.wd)
section
open Classical
theorem gdw_t {a : Atm} (h : a.ok) : gdw a.wd = true := decide_eq_true ⟨a, h, rfl⟩
theorem gdw_of {w : Str} (h : gdw w = true) : ∃ a : Atm, a.ok ∧ w = a.wd := of_decide_eq_true h
theorem gdw_b {w : Str} (h : Bad w) : gdw w = false := decide_eq_false fun ⟨a, ok, e⟩ => by
  subst e
  obtain ⟨⟨d, h1, h2⟩, _⟩ := h
  rw [aow_n ok] at h1
  injection h1 with h1
  injection h1 with h1
  subst h1
  rw [atom_n ok] at h2
  injection h2 with h2
  injection h2 with h2
  injection h2 with h2
  cases h2
end
def awD (w : Str) : D := match f_atom_of_word [.str w] with
  | some (.ret d _) => d
  | _ => .non
theorem awD_n {w : Str} {d : D} {es : List D} (h : f_atom_of_word [.str w] = some (.ret d es)) : awD w = d := by
  unfold awD
  rw [h]
theorem aw_ok {w : Str} (hw : w.length ≤ 1000000) : f_atom_of_word [.str w] = some (.ret (awD w) []) := by
  rcases word_any hw with ⟨a, ok, rfl⟩ | ⟨⟨d, h, _⟩, _⟩
  · rw [awD_n (aow_n ok), aow_n ok]
  · rw [awD_n h, h]
theorem aw_wd {a : Atm} (h : a.ok) : awD a.wd = a.d := awD_n (aow_n h)
theorem is_any {w : Str} (hw : w.length ≤ 1000000) : f_is_atom [awD w] = some (.ret (.bl (gdw w)) []) := by
  rcases word_any hw with ⟨a, ok, rfl⟩ | b
  · rw [aw_wd ok, gdw_t ok, atom_n ok]
  · obtain ⟨⟨d, h, k⟩, _⟩ := id b
    rw [awD_n h, gdw_b b, k]
theorem body_any {w : Str} {g : Gm} (hw : w.length ≤ 1000000) (hg : g[2]? = some (.im (.str w))) : b_x_law_read_1 g = some (.ok (if (!gdw w) = true then .rt .non else .nx) g) := by
  rcases word_any hw with ⟨a, ok, rfl⟩ | b
  · rw [gdw_t ok]
    have nn : mNm 2 g = some (.ok (.nm 2) g) := nmE hg fun z => nomatch z
    have hk : isKc a.k = true := by have := ok.hk; exact decide_eq_true (by omega)
    have qa : dNotIn (.str ⟨#[a.k]⟩) (.str "CAB") = some (.bl false) := by rw [in_cab, hk]; rfl
    have qb := Sp.in_dig ok.v0 ok.v1
    have qc := Sp.in_dig ok.w0 ok.w1
    unfold b_x_law_read_1
    simp (config := { decide := false }) only [↓runDef, gOf, slotOf, endMs, ↓seqE, ↓bindE, bindO_ok, bindO_ex, bindO_none, seqO_nx, seqO_rt, seqO_rn, seqO_bk, seqO_ct, seqO_ex, seqO_none, ↓retE, ↓failE, ↓ifE, ↓andE, ↓andK_t, ↓andK_f, ↓orE, ↓orK_t, ↓orK_f, ↓andBE, ↓andBK_t, ↓andBK_f, ↓orBE, ↓orBK_t, ↓orBK_f, ↓chE, ↓chK_t, ↓chK_f, ifO_t, ifO_f, ↓mVa, ↓mFz, ↓mNm, ↓mFrz, ↓mOp2, ↓mOp1, ↓f2E, ↓f1E, ↓fsE, ansO_some, ansO_none, rdAll, Hd.rd, D.flat, ↓mCons, ↓mCall, ↓mTup, ↓mLst, ↓mFrzs, dBool, dadd, dsub, dgt, dMax2, dMin2, ↓mSet, ↓mSetN, ↓mSetIx, mKindN, isKindN, mWr, beq_self_eq_true, Sl.cell, Sl.put, ↓mFrzM, argDs, argD, apartB, putMu, ↓mCallF, ↓mCallN, Hd.isNm, nmu, List.cons_append, List.nil_append, List.length_cons, List.length_nil, List.replicate_succ, List.replicate_zero, List.getElem?_cons_zero, List.getElem?_cons_succ, List.set_cons_zero, List.set_cons_succ, List.any_nil, List.any_cons, Nat.reduceAdd, Nat.reduceSub, Nat.reduceBEq, if_true, if_false, Bool.false_eq_true, ↓reduceIte, Option.bind_some, Option.map_some, Bool.or_self, Bool.false_or, Bool.or_false, Bool.true_or, Bool.or_true, List.contains_nil, List.contains_cons, Bool.and_self, Bool.not_false, Bool.not_true, Bool.true_and, Bool.and_true, Bool.false_and, decide_true, decide_false, nn, hg, wd_len, wd_ix0, wd_ix1, wd_ix2, n33, qa, qb, qc]
  · rw [gdw_b b, b.2 g hg]
    rfl
theorem are_any {ws : List Str} (h : ∀ w ∈ ws, w.length ≤ 1000000) (hl : ws.length ≤ 1000) : f_are_atoms [.lst (ws.map awD)] = some (.ret (.bl ((decide (1 ≤ ws.length) && decide (ws.length ≤ 4)) && ws.all gdw)) []) := by
  have hc : mLc (some 0) (mItN 0) [1] (tgNm 1) (M.ret true) e_are_atoms_1 [.im (.lst (ws.map awD)), .un] = some (.ok (.lst (ws.map fun w => .bl (gdw w))) [.im (.lst (ws.map awD)), .un]) := by
    refine lc_map awD (fun w => .bl (gdw w)) (itN_im rfl rfl) rfl (by omega) rfl rfl fun w hw => ⟨_, rfl, ?_, rfl⟩
    unfold e_are_atoms_1
    simp (config := { decide := false }) only [↓runDef, gOf, slotOf, endMs, ↓seqE, ↓bindE, bindO_ok, bindO_ex, bindO_none, seqO_nx, seqO_rt, seqO_rn, seqO_bk, seqO_ct, seqO_ex, seqO_none, ↓retE, ↓failE, ↓ifE, ↓andE, ↓andK_t, ↓andK_f, ↓orE, ↓orK_t, ↓orK_f, ↓andBE, ↓andBK_t, ↓andBK_f, ↓orBE, ↓orBK_t, ↓orBK_f, ↓chE, ↓chK_t, ↓chK_f, ifO_t, ifO_f, ↓mVa, ↓mFz, ↓mNm, ↓mFrz, ↓mOp2, ↓mOp1, ↓f2E, ↓f1E, ↓fsE, ansO_some, ansO_none, rdAll, Hd.rd, D.flat, ↓mCons, ↓mCall, ↓mTup, ↓mLst, ↓mFrzs, dBool, dadd, dsub, dgt, dMax2, dMin2, ↓mSet, ↓mSetN, ↓mSetIx, mKindN, isKindN, mWr, beq_self_eq_true, Sl.cell, Sl.put, ↓mFrzM, argDs, argD, apartB, putMu, ↓mCallF, ↓mCallN, Hd.isNm, nmu, List.cons_append, List.nil_append, List.length_cons, List.length_nil, List.replicate_succ, List.replicate_zero, List.getElem?_cons_zero, List.getElem?_cons_succ, List.set_cons_zero, List.set_cons_succ, List.any_nil, List.any_cons, Nat.reduceAdd, Nat.reduceSub, Nat.reduceBEq, if_true, if_false, Bool.false_eq_true, ↓reduceIte, Option.bind_some, Option.map_some, Bool.or_self, Bool.false_or, Bool.or_false, Bool.true_or, Bool.or_true, List.contains_nil, List.contains_cons, Bool.and_self, Bool.not_false, Bool.not_true, Bool.true_and, Bool.and_true, Bool.false_and, decide_true, decide_false, lendOut, wipeG, is_any (h w hw)]
  have ha := all_map gdw ws
  have hlen : dLen [.lst (ws.map awD)] = some (.int (ws.length : Nat)) := by rw [dlen_l, List.length_map]
  obtain ⟨n, hn⟩ : ∃ n : Int, n = (ws.length : Nat) := ⟨_, rfl⟩
  have c1 : decide ((1 : Int) ≤ n) = decide (1 ≤ ws.length) := decide_eq_decide.mpr (by omega)
  have c2 : decide (n ≤ 4) = decide (ws.length ≤ 4) := decide_eq_decide.mpr (by omega)
  rw [← hn] at hlen
  unfold f_are_atoms m_are_atoms
  cases d1 : decide (1 ≤ ws.length) <;> cases d2 : decide (ws.length ≤ 4) <;> rw [d1] at c1 <;> rw [d2] at c2 <;> simp (config := { decide := false }) only [↓runDef, gOf, slotOf, endMs, ↓seqE, ↓bindE, bindO_ok, bindO_ex, bindO_none, seqO_nx, seqO_rt, seqO_rn, seqO_bk, seqO_ct, seqO_ex, seqO_none, ↓retE, ↓failE, ↓ifE, ↓andE, ↓andK_t, ↓andK_f, ↓orE, ↓orK_t, ↓orK_f, ↓andBE, ↓andBK_t, ↓andBK_f, ↓orBE, ↓orBK_t, ↓orBK_f, ↓chE, ↓chK_t, ↓chK_f, ifO_t, ifO_f, ↓mVa, ↓mFz, ↓mNm, ↓mFrz, ↓mOp2, ↓mOp1, ↓f2E, ↓f1E, ↓fsE, ansO_some, ansO_none, rdAll, Hd.rd, D.flat, ↓mCons, ↓mCall, ↓mTup, ↓mLst, ↓mFrzs, dBool, dadd, dsub, dgt, dMax2, dMin2, ↓mSet, ↓mSetN, ↓mSetIx, mKindN, isKindN, mWr, beq_self_eq_true, Sl.cell, Sl.put, ↓mFrzM, argDs, argD, apartB, putMu, ↓mCallF, ↓mCallN, Hd.isNm, nmu, List.cons_append, List.nil_append, List.length_cons, List.length_nil, List.replicate_succ, List.replicate_zero, List.getElem?_cons_zero, List.getElem?_cons_succ, List.set_cons_zero, List.set_cons_succ, List.any_nil, List.any_cons, Nat.reduceAdd, Nat.reduceSub, Nat.reduceBEq, if_true, if_false, Bool.false_eq_true, ↓reduceIte, Option.bind_some, Option.map_some, Bool.or_self, Bool.false_or, Bool.or_false, Bool.true_or, Bool.or_true, List.contains_nil, List.contains_cons, Bool.and_self, Bool.not_false, Bool.not_true, Bool.true_and, Bool.and_true, Bool.false_and, decide_true, decide_false, hlen, c1, c2, hc, ha, Bool.true_and, Bool.false_and, Bool.and_true, Bool.and_false]
theorem split_any {n : Nat} {x : Str} (h : Tx n x) (hn : n ≤ 1000) : fSplit (.str x) [.str " "] = some (.lst ((Txt.split x " ").map .str)) := by
  have := h.len
  simp only [fSplit]
  rw [if_pos ⟨by decide, by omega⟩]
theorem lc_any {x : Str} (h : Tx 900 x) : mLc none i_Question_read_1 [3] (tgNm 3) (M.ret true) e_Question_read_2 [.im (.glo 1), .im (.str x), .un, .un] = some (.ok (.lst ((Txt.split x " ").map awD)) [.im (.glo 1), .im (.str x), .un, .un]) := by
  have hi : i_Question_read_1 [.im (.glo 1), .im (.str x), .un, .un] = some (.ok ((Txt.split x " ").map .str) [.im (.glo 1), .im (.str x), .un, .un]) := by
    have sp := split_any h (by decide)
    unfold i_Question_read_1 mIt
    simp (config := { decide := false }) only [↓runDef, gOf, slotOf, endMs, ↓seqE, ↓bindE, bindO_ok, bindO_ex, bindO_none, seqO_nx, seqO_rt, seqO_rn, seqO_bk, seqO_ct, seqO_ex, seqO_none, ↓retE, ↓failE, ↓ifE, ↓andE, ↓andK_t, ↓andK_f, ↓orE, ↓orK_t, ↓orK_f, ↓andBE, ↓andBK_t, ↓andBK_f, ↓orBE, ↓orBK_t, ↓orBK_f, ↓chE, ↓chK_t, ↓chK_f, ifO_t, ifO_f, ↓mVa, ↓mFz, ↓mNm, ↓mFrz, ↓mOp2, ↓mOp1, ↓f2E, ↓f1E, ↓fsE, ansO_some, ansO_none, rdAll, Hd.rd, D.flat, ↓mCons, ↓mCall, ↓mTup, ↓mLst, ↓mFrzs, dBool, dadd, dsub, dgt, dMax2, dMin2, ↓mSet, ↓mSetN, ↓mSetIx, mKindN, isKindN, mWr, beq_self_eq_true, Sl.cell, Sl.put, ↓mFrzM, argDs, argD, apartB, putMu, ↓mCallF, ↓mCallN, Hd.isNm, nmu, List.cons_append, List.nil_append, List.length_cons, List.length_nil, List.replicate_succ, List.replicate_zero, List.getElem?_cons_zero, List.getElem?_cons_succ, List.set_cons_zero, List.set_cons_succ, List.any_nil, List.any_cons, Nat.reduceAdd, Nat.reduceSub, Nat.reduceBEq, if_true, if_false, Bool.false_eq_true, ↓reduceIte, Option.bind_some, Option.map_some, Bool.or_self, Bool.false_or, Bool.or_false, Bool.true_or, Bool.or_true, List.contains_nil, List.contains_cons, Bool.and_self, Bool.not_false, Bool.not_true, Bool.true_and, Bool.and_true, Bool.false_and, decide_true, decide_false, mMtK, mKind, isKind, sp, itD]
  have hl := words_cnt h
  refine lc_map D.str awD hi rfl (by omega) rfl rfl fun w hw => ⟨_, rfl, ?_, rfl⟩
  have := aw_ok (w := w) (by have := word_len h w hw; omega)
  unfold e_Question_read_2
  simp (config := { decide := false }) only [↓runDef, gOf, slotOf, endMs, ↓seqE, ↓bindE, bindO_ok, bindO_ex, bindO_none, seqO_nx, seqO_rt, seqO_rn, seqO_bk, seqO_ct, seqO_ex, seqO_none, ↓retE, ↓failE, ↓ifE, ↓andE, ↓andK_t, ↓andK_f, ↓orE, ↓orK_t, ↓orK_f, ↓andBE, ↓andBK_t, ↓andBK_f, ↓orBE, ↓orBK_t, ↓orBK_f, ↓chE, ↓chK_t, ↓chK_f, ifO_t, ifO_f, ↓mVa, ↓mFz, ↓mNm, ↓mFrz, ↓mOp2, ↓mOp1, ↓f2E, ↓f1E, ↓fsE, ansO_some, ansO_none, rdAll, Hd.rd, D.flat, ↓mCons, ↓mCall, ↓mTup, ↓mLst, ↓mFrzs, dBool, dadd, dsub, dgt, dMax2, dMin2, ↓mSet, ↓mSetN, ↓mSetIx, mKindN, isKindN, mWr, beq_self_eq_true, Sl.cell, Sl.put, ↓mFrzM, argDs, argD, apartB, putMu, ↓mCallF, ↓mCallN, Hd.isNm, nmu, List.cons_append, List.nil_append, List.length_cons, List.length_nil, List.replicate_succ, List.replicate_zero, List.getElem?_cons_zero, List.getElem?_cons_succ, List.set_cons_zero, List.set_cons_succ, List.any_nil, List.any_cons, Nat.reduceAdd, Nat.reduceSub, Nat.reduceBEq, if_true, if_false, Bool.false_eq_true, ↓reduceIte, Option.bind_some, Option.map_some, Bool.or_self, Bool.false_or, Bool.or_false, Bool.true_or, Bool.or_true, List.contains_nil, List.contains_cons, Bool.and_self, Bool.not_false, Bool.not_true, Bool.true_and, Bool.and_true, Bool.false_and, decide_true, decide_false, lendOut, wipeG, this]
def Rf (d : D) : Prop := (f_Question_read [.glo 1, d] = some (.exc 14 []) ∧ fn_Question_read [.glo 1, d] = some (.exc 14 [])) ∧ f_x_law_read [d] = some (.ret .non [])
theorem read_no {x : Str} (h : Tx 900 x) (n : ((decide (1 ≤ (Txt.split x " ").length) && decide ((Txt.split x " ").length ≤ 4)) && (Txt.split x " ").all gdw) = false) : f_Question_read [.glo 1, .str x] = some (.exc 14 []) ∧ fn_Question_read [.glo 1, .str x] = some (.exc 14 []) := by
  have hl := words_cnt h
  have a := are_any (ws := Txt.split x " ") (fun w hw => by have := word_len h w hw; omega) (by omega)
  rw [n] at a
  have lc := lc_any h
  generalize (Txt.split x " ").map awD = L at *
  constructor
  · unfold f_Question_read m_Question_read
    simp (config := { decide := false }) only [↓runDef, gOf, slotOf, endMs, ↓seqE, ↓bindE, bindO_ok, bindO_ex, bindO_none, seqO_nx, seqO_rt, seqO_rn, seqO_bk, seqO_ct, seqO_ex, seqO_none, ↓retE, ↓failE, ↓ifE, ↓andE, ↓andK_t, ↓andK_f, ↓orE, ↓orK_t, ↓orK_f, ↓andBE, ↓andBK_t, ↓andBK_f, ↓orBE, ↓orBK_t, ↓orBK_f, ↓chE, ↓chK_t, ↓chK_f, ifO_t, ifO_f, ↓mVa, ↓mFz, ↓mNm, ↓mFrz, ↓mOp2, ↓mOp1, ↓f2E, ↓f1E, ↓fsE, ansO_some, ansO_none, rdAll, Hd.rd, D.flat, ↓mCons, ↓mCall, ↓mTup, ↓mLst, ↓mFrzs, dBool, dadd, dsub, dgt, dMax2, dMin2, ↓mSet, ↓mSetN, ↓mSetIx, mKindN, isKindN, mWr, beq_self_eq_true, Sl.cell, Sl.put, ↓mFrzM, argDs, argD, apartB, putMu, ↓mCallF, ↓mCallN, Hd.isNm, nmu, List.cons_append, List.nil_append, List.length_cons, List.length_nil, List.replicate_succ, List.replicate_zero, List.getElem?_cons_zero, List.getElem?_cons_succ, List.set_cons_zero, List.set_cons_succ, List.any_nil, List.any_cons, Nat.reduceAdd, Nat.reduceSub, Nat.reduceBEq, if_true, if_false, Bool.false_eq_true, ↓reduceIte, Option.bind_some, Option.map_some, Bool.or_self, Bool.false_or, Bool.or_false, Bool.true_or, Bool.or_true, List.contains_nil, List.contains_cons, Bool.and_self, Bool.not_false, Bool.not_true, Bool.true_and, Bool.and_true, Bool.false_and, decide_true, decide_false, mIsi, dIsi, isTy, lc, a, mRaise]
  · unfold fn_Question_read mn_Question_read
    simp (config := { decide := false }) only [↓runDef, gOf, slotOf, endMs, ↓seqE, ↓bindE, bindO_ok, bindO_ex, bindO_none, seqO_nx, seqO_rt, seqO_rn, seqO_bk, seqO_ct, seqO_ex, seqO_none, ↓retE, ↓failE, ↓ifE, ↓andE, ↓andK_t, ↓andK_f, ↓orE, ↓orK_t, ↓orK_f, ↓andBE, ↓andBK_t, ↓andBK_f, ↓orBE, ↓orBK_t, ↓orBK_f, ↓chE, ↓chK_t, ↓chK_f, ifO_t, ifO_f, ↓mVa, ↓mFz, ↓mNm, ↓mFrz, ↓mOp2, ↓mOp1, ↓f2E, ↓f1E, ↓fsE, ansO_some, ansO_none, rdAll, Hd.rd, D.flat, ↓mCons, ↓mCall, ↓mTup, ↓mLst, ↓mFrzs, dBool, dadd, dsub, dgt, dMax2, dMin2, ↓mSet, ↓mSetN, ↓mSetIx, mKindN, isKindN, mWr, beq_self_eq_true, Sl.cell, Sl.put, ↓mFrzM, argDs, argD, apartB, putMu, ↓mCallF, ↓mCallN, Hd.isNm, nmu, List.cons_append, List.nil_append, List.length_cons, List.length_nil, List.replicate_succ, List.replicate_zero, List.getElem?_cons_zero, List.getElem?_cons_succ, List.set_cons_zero, List.set_cons_succ, List.any_nil, List.any_cons, Nat.reduceAdd, Nat.reduceSub, Nat.reduceBEq, if_true, if_false, Bool.false_eq_true, ↓reduceIte, Option.bind_some, Option.map_some, Bool.or_self, Bool.false_or, Bool.or_false, Bool.true_or, Bool.or_true, List.contains_nil, List.contains_cons, Bool.and_self, Bool.not_false, Bool.not_true, Bool.true_and, Bool.and_true, Bool.false_and, decide_true, decide_false, mIsi, dIsi, isTy, lc, noEx, a, mRaise]
theorem fread_yes {as : List Atm} (h : ∀ a ∈ as, a.ok) (h1 : 1 ≤ as.length) (h4 : as.length ≤ 4) : fn_Question_read [.glo 1, .str (words as)] = some (.ret (qd as) []) := by
  have hi : i_Question_read_1 [.im (.glo 1), .im (.str (words as)), .un, .un] = some (.ok (as.map fun a => D.str a.wd) [.im (.glo 1), .im (.str (words as)), .un, .un]) := by
    unfold i_Question_read_1 mIt
    simp (config := { decide := false }) only [↓runDef, gOf, slotOf, endMs, ↓seqE, ↓bindE, bindO_ok, bindO_ex, bindO_none, seqO_nx, seqO_rt, seqO_rn, seqO_bk, seqO_ct, seqO_ex, seqO_none, ↓retE, ↓failE, ↓ifE, ↓andE, ↓andK_t, ↓andK_f, ↓orE, ↓orK_t, ↓orK_f, ↓andBE, ↓andBK_t, ↓andBK_f, ↓orBE, ↓orBK_t, ↓orBK_f, ↓chE, ↓chK_t, ↓chK_f, ifO_t, ifO_f, ↓mVa, ↓mFz, ↓mNm, ↓mFrz, ↓mOp2, ↓mOp1, ↓f2E, ↓f1E, ↓fsE, ansO_some, ansO_none, rdAll, Hd.rd, D.flat, ↓mCons, ↓mCall, ↓mTup, ↓mLst, ↓mFrzs, dBool, dadd, dsub, dgt, dMax2, dMin2, ↓mSet, ↓mSetN, ↓mSetIx, mKindN, isKindN, mWr, beq_self_eq_true, Sl.cell, Sl.put, ↓mFrzM, argDs, argD, apartB, putMu, ↓mCallF, ↓mCallN, Hd.isNm, nmu, List.cons_append, List.nil_append, List.length_cons, List.length_nil, List.replicate_succ, List.replicate_zero, List.getElem?_cons_zero, List.getElem?_cons_succ, List.set_cons_zero, List.set_cons_succ, List.any_nil, List.any_cons, Nat.reduceAdd, Nat.reduceSub, Nat.reduceBEq, if_true, if_false, Bool.false_eq_true, ↓reduceIte, Option.bind_some, Option.map_some, Bool.or_self, Bool.false_or, Bool.or_false, Bool.true_or, Bool.or_true, List.contains_nil, List.contains_cons, Bool.and_self, Bool.not_false, Bool.not_true, Bool.true_and, Bool.and_true, Bool.false_and, decide_true, decide_false, mMtK, mKind, isKind, split_n h h1 h4, itD]
  have hc : mLc none i_Question_read_1 [3] (tgNm 3) (M.ret true) e_Question_read_2 [.im (.glo 1), .im (.str (words as)), .un, .un] = some (.ok (.lst (as.map Atm.d)) [.im (.glo 1), .im (.str (words as)), .un, .un]) := by
    refine lc_map (fun a : Atm => D.str a.wd) Atm.d hi rfl (by omega) rfl rfl fun a ha => ⟨_, rfl, ?_, rfl⟩
    unfold e_Question_read_2
    simp (config := { decide := false }) only [↓runDef, gOf, slotOf, endMs, ↓seqE, ↓bindE, bindO_ok, bindO_ex, bindO_none, seqO_nx, seqO_rt, seqO_rn, seqO_bk, seqO_ct, seqO_ex, seqO_none, ↓retE, ↓failE, ↓ifE, ↓andE, ↓andK_t, ↓andK_f, ↓orE, ↓orK_t, ↓orK_f, ↓andBE, ↓andBK_t, ↓andBK_f, ↓orBE, ↓orBK_t, ↓orBK_f, ↓chE, ↓chK_t, ↓chK_f, ifO_t, ifO_f, ↓mVa, ↓mFz, ↓mNm, ↓mFrz, ↓mOp2, ↓mOp1, ↓f2E, ↓f1E, ↓fsE, ansO_some, ansO_none, rdAll, Hd.rd, D.flat, ↓mCons, ↓mCall, ↓mTup, ↓mLst, ↓mFrzs, dBool, dadd, dsub, dgt, dMax2, dMin2, ↓mSet, ↓mSetN, ↓mSetIx, mKindN, isKindN, mWr, beq_self_eq_true, Sl.cell, Sl.put, ↓mFrzM, argDs, argD, apartB, putMu, ↓mCallF, ↓mCallN, Hd.isNm, nmu, List.cons_append, List.nil_append, List.length_cons, List.length_nil, List.replicate_succ, List.replicate_zero, List.getElem?_cons_zero, List.getElem?_cons_succ, List.set_cons_zero, List.set_cons_succ, List.any_nil, List.any_cons, Nat.reduceAdd, Nat.reduceSub, Nat.reduceBEq, if_true, if_false, Bool.false_eq_true, ↓reduceIte, Option.bind_some, Option.map_some, Bool.or_self, Bool.false_or, Bool.or_false, Bool.true_or, Bool.or_true, List.contains_nil, List.contains_cons, Bool.and_self, Bool.not_false, Bool.not_true, Bool.true_and, Bool.and_true, Bool.false_and, decide_true, decide_false, lendOut, wipeG, aow_n (h a ha)]
  have hm : mMkS 1 f_Question___init ((mNm 2).bind mFrz) [.im (.glo 1), .im (.str (words as)), .im (.lst (as.map Atm.d)), .un] = some (.ok (qd as) [.im (.glo 1), .im (.str (words as)), .im (.lst (as.map Atm.d)), .un]) := mks_n (.inl rfl) h h1 h4 rfl
  have at1 := atoms_n (.inl rfl) h h1 h4
  unfold fn_Question_read mn_Question_read
  simp (config := { decide := false }) only [↓runDef, gOf, slotOf, endMs, ↓seqE, ↓bindE, bindO_ok, bindO_ex, bindO_none, seqO_nx, seqO_rt, seqO_rn, seqO_bk, seqO_ct, seqO_ex, seqO_none, ↓retE, ↓failE, ↓ifE, ↓andE, ↓andK_t, ↓andK_f, ↓orE, ↓orK_t, ↓orK_f, ↓andBE, ↓andBK_t, ↓andBK_f, ↓orBE, ↓orBK_t, ↓orBK_f, ↓chE, ↓chK_t, ↓chK_f, ifO_t, ifO_f, ↓mVa, ↓mFz, ↓mNm, ↓mFrz, ↓mOp2, ↓mOp1, ↓f2E, ↓f1E, ↓fsE, ansO_some, ansO_none, rdAll, Hd.rd, D.flat, ↓mCons, ↓mCall, ↓mTup, ↓mLst, ↓mFrzs, dBool, dadd, dsub, dgt, dMax2, dMin2, ↓mSet, ↓mSetN, ↓mSetIx, mKindN, isKindN, mWr, beq_self_eq_true, Sl.cell, Sl.put, ↓mFrzM, argDs, argD, apartB, putMu, ↓mCallF, ↓mCallN, Hd.isNm, nmu, List.cons_append, List.nil_append, List.length_cons, List.length_nil, List.replicate_succ, List.replicate_zero, List.getElem?_cons_zero, List.getElem?_cons_succ, List.set_cons_zero, List.set_cons_succ, List.any_nil, List.any_cons, Nat.reduceAdd, Nat.reduceSub, Nat.reduceBEq, if_true, if_false, Bool.false_eq_true, ↓reduceIte, Option.bind_some, Option.map_some, Bool.or_self, Bool.false_or, Bool.or_false, Bool.true_or, Bool.or_true, List.contains_nil, List.contains_cons, Bool.and_self, Bool.not_false, Bool.not_true, Bool.true_and, Bool.and_true, Bool.false_and, decide_true, decide_false, mIsi, dIsi, isTy, hc, noEx, at1, mGlo, hm]
theorem lfor {x : Str} {ws : List Str} (h : ∀ w ∈ ws, w.length ≤ 1000000) : ∃ z : Sl, z.plain = true ∧ mFor (some 1) (mItN 1) (tgNm 2) b_x_law_read_1 [.im (.str x), .im (.lst (ws.map .str)), .un] = some (.ok (if ws.any (fun w => !gdw w) = true then .rt .non else .nx) [.im (.str x), .im (.lst (ws.map .str)), z]) := by
  obtain ⟨g', ⟨z, pz, rfl⟩, e⟩ := forL_anyM (T := tgNm 2) (body := b_x_law_read_1) (z := .non) D.str (fun w => !gdw w) (fun g => ∃ z : Sl, z.plain = true ∧ g = [.im (.str x), .im (.lst (ws.map .str)), z]) (ds := ws) (g := [.im (.str x), .im (.lst (ws.map .str)), .un]) ⟨.un, rfl, rfl⟩ fun w hw g ⟨z, _, eg⟩ => by
    subst eg
    exact ⟨_, _, rfl, ⟨.im (.str w), rfl, rfl⟩, body_any (h w hw) rfl⟩
  exact ⟨z, pz, (for_im rfl rfl).trans e⟩
theorem lread_no {x : Str} (h : Tx 900 x) (n : (decide ((Txt.split x " ").length ≤ 4) && (Txt.split x " ").all gdw) = false) : f_x_law_read [.str x] = some (.ret .non []) := by
  have sp := split_any h (by decide)
  obtain ⟨z, pz, hf⟩ := lfor (x := x) (ws := Txt.split x " ") (fun w hw => by have := word_len h w hw; omega)
  have hlen : dLen [.lst ((Txt.split x " ").map .str)] = some (.int ((Txt.split x " ").length : Nat)) := by rw [dlen_l, List.length_map]
  have an : decide ((Txt.split x " ").length ≤ 4) = true → (Txt.split x " ").any (fun w => !gdw w) = true := fun c => by
    rw [c, Bool.true_and] at n
    rw [List.any_eq_true]
    obtain ⟨w, hw, e⟩ := List.all_eq_false.mp n
    exact ⟨w, hw, by simpa using e⟩
  obtain ⟨n, hn⟩ : ∃ n : Int, n = ((Txt.split x " ").length : Nat) := ⟨_, rfl⟩
  have c2 : decide ((4 : Int) < n) = !decide ((Txt.split x " ").length ≤ 4) := by
    rw [Bool.eq_iff_iff]
    simp only [decide_eq_true_eq, Bool.not_eq_true', decide_eq_false_iff_not]
    omega
  rw [← hn] at hlen
  generalize (Txt.split x " ").map D.str = L at *
  unfold f_x_law_read m_x_law_read
  cases d2 : decide ((Txt.split x " ").length ≤ 4) with
  | false =>
    rw [d2] at c2
    simp (config := { decide := false }) only [↓runDef, gOf, slotOf, endMs, ↓seqE, ↓bindE, bindO_ok, bindO_ex, bindO_none, seqO_nx, seqO_rt, seqO_rn, seqO_bk, seqO_ct, seqO_ex, seqO_none, ↓retE, ↓failE, ↓ifE, ↓andE, ↓andK_t, ↓andK_f, ↓orE, ↓orK_t, ↓orK_f, ↓andBE, ↓andBK_t, ↓andBK_f, ↓orBE, ↓orBK_t, ↓orBK_f, ↓chE, ↓chK_t, ↓chK_f, ifO_t, ifO_f, ↓mVa, ↓mFz, ↓mNm, ↓mFrz, ↓mOp2, ↓mOp1, ↓f2E, ↓f1E, ↓fsE, ansO_some, ansO_none, rdAll, Hd.rd, D.flat, ↓mCons, ↓mCall, ↓mTup, ↓mLst, ↓mFrzs, dBool, dadd, dsub, dgt, dMax2, dMin2, ↓mSet, ↓mSetN, ↓mSetIx, mKindN, isKindN, mWr, beq_self_eq_true, Sl.cell, Sl.put, ↓mFrzM, argDs, argD, apartB, putMu, ↓mCallF, ↓mCallN, Hd.isNm, nmu, List.cons_append, List.nil_append, List.length_cons, List.length_nil, List.replicate_succ, List.replicate_zero, List.getElem?_cons_zero, List.getElem?_cons_succ, List.set_cons_zero, List.set_cons_succ, List.any_nil, List.any_cons, Nat.reduceAdd, Nat.reduceSub, Nat.reduceBEq, if_true, if_false, Bool.false_eq_true, ↓reduceIte, Option.bind_some, Option.map_some, Bool.or_self, Bool.false_or, Bool.or_false, Bool.true_or, Bool.or_true, List.contains_nil, List.contains_cons, Bool.and_self, Bool.not_false, Bool.not_true, Bool.true_and, Bool.and_true, Bool.false_and, decide_true, decide_false, mIsi, dIsi, isTy, mMtK, mKind, isKind, sp, hlen, c2]
  | true =>
    rw [d2] at c2
    rw [an d2] at hf
    simp (config := { decide := false }) only [↓runDef, gOf, slotOf, endMs, ↓seqE, ↓bindE, bindO_ok, bindO_ex, bindO_none, seqO_nx, seqO_rt, seqO_rn, seqO_bk, seqO_ct, seqO_ex, seqO_none, ↓retE, ↓failE, ↓ifE, ↓andE, ↓andK_t, ↓andK_f, ↓orE, ↓orK_t, ↓orK_f, ↓andBE, ↓andBK_t, ↓andBK_f, ↓orBE, ↓orBK_t, ↓orBK_f, ↓chE, ↓chK_t, ↓chK_f, ifO_t, ifO_f, ↓mVa, ↓mFz, ↓mNm, ↓mFrz, ↓mOp2, ↓mOp1, ↓f2E, ↓f1E, ↓fsE, ansO_some, ansO_none, rdAll, Hd.rd, D.flat, ↓mCons, ↓mCall, ↓mTup, ↓mLst, ↓mFrzs, dBool, dadd, dsub, dgt, dMax2, dMin2, ↓mSet, ↓mSetN, ↓mSetIx, mKindN, isKindN, mWr, beq_self_eq_true, Sl.cell, Sl.put, ↓mFrzM, argDs, argD, apartB, putMu, ↓mCallF, ↓mCallN, Hd.isNm, nmu, List.cons_append, List.nil_append, List.length_cons, List.length_nil, List.replicate_succ, List.replicate_zero, List.getElem?_cons_zero, List.getElem?_cons_succ, List.set_cons_zero, List.set_cons_succ, List.any_nil, List.any_cons, Nat.reduceAdd, Nat.reduceSub, Nat.reduceBEq, if_true, if_false, Bool.false_eq_true, ↓reduceIte, Option.bind_some, Option.map_some, Bool.or_self, Bool.false_or, Bool.or_false, Bool.true_or, Bool.or_true, List.contains_nil, List.contains_cons, Bool.and_self, Bool.not_false, Bool.not_true, Bool.true_and, Bool.and_true, Bool.false_and, decide_true, decide_false, mIsi, dIsi, isTy, mMtK, mKind, isKind, sp, hlen, c2, hf]
theorem lread_yes {as : List Atm} (h : ∀ a ∈ as, a.ok) (h1 : 1 ≤ as.length) (h4 : as.length ≤ 4) : f_x_law_read [.str (words as)] = some (.ret (.tup (as.map Atm.d)) []) := by
  have sp := split_n h h1 h4
  obtain ⟨z, pz, hf⟩ := lfor (x := words as) (ws := as.map Atm.wd) (fun w hw => by
    obtain ⟨a, _, rfl⟩ := List.mem_map.mp hw
    show 3 ≤ 1000000
    decide)
  have an : (as.map Atm.wd).any (fun w => !gdw w) = false := by
    rw [List.any_eq_false]
    intro w hw
    obtain ⟨a, ha, rfl⟩ := List.mem_map.mp hw
    rw [gdw_t (h a ha)]
    decide
  rw [an, List.map_map] at hf
  have hf : mFor (some 1) (mItN 1) (tgNm 2) b_x_law_read_1 [.im (.str (words as)), .im (.lst (as.map fun a => D.str a.wd)), .un] = some (.ok .nx [.im (.str (words as)), .im (.lst (as.map fun a => D.str a.wd)), z]) := hf
  have hlen : dLen [.lst (as.map fun a => D.str a.wd)] = some (.int (as.length : Nat)) := by rw [dlen_l, List.length_map]
  have hc : ∀ z : Sl, z.plain = true → mLc (some 1) (mItN 1) [2] (tgNm 2) (M.ret true) e_x_law_read_2 [.im (.str (words as)), .im (.lst (as.map fun a => D.str a.wd)), z] = some (.ok (.lst (as.map Atm.d)) [.im (.str (words as)), .im (.lst (as.map fun a => D.str a.wd)), z]) := fun z pz => by
    refine lc_map (fun a : Atm => D.str a.wd) Atm.d (itN_im rfl rfl) (by simp only [lendOut, plainAt, List.all_cons, List.all_nil, Bool.and_true]; exact pz) (by omega) rfl rfl fun a ha => ⟨_, rfl, ?_, rfl⟩
    have ok := h a ha
    have i1 := int_dig ok.v0 ok.v1
    have i2 := int_dig ok.w0 ok.w1
    unfold e_x_law_read_2
    simp (config := { decide := false }) only [↓runDef, gOf, slotOf, endMs, ↓seqE, ↓bindE, bindO_ok, bindO_ex, bindO_none, seqO_nx, seqO_rt, seqO_rn, seqO_bk, seqO_ct, seqO_ex, seqO_none, ↓retE, ↓failE, ↓ifE, ↓andE, ↓andK_t, ↓andK_f, ↓orE, ↓orK_t, ↓orK_f, ↓andBE, ↓andBK_t, ↓andBK_f, ↓orBE, ↓orBK_t, ↓orBK_f, ↓chE, ↓chK_t, ↓chK_f, ifO_t, ifO_f, ↓mVa, ↓mFz, ↓mNm, ↓mFrz, ↓mOp2, ↓mOp1, ↓f2E, ↓f1E, ↓fsE, ansO_some, ansO_none, rdAll, Hd.rd, D.flat, ↓mCons, ↓mCall, ↓mTup, ↓mLst, ↓mFrzs, dBool, dadd, dsub, dgt, dMax2, dMin2, ↓mSet, ↓mSetN, ↓mSetIx, mKindN, isKindN, mWr, beq_self_eq_true, Sl.cell, Sl.put, ↓mFrzM, argDs, argD, apartB, putMu, ↓mCallF, ↓mCallN, Hd.isNm, nmu, List.cons_append, List.nil_append, List.length_cons, List.length_nil, List.replicate_succ, List.replicate_zero, List.getElem?_cons_zero, List.getElem?_cons_succ, List.set_cons_zero, List.set_cons_succ, List.any_nil, List.any_cons, Nat.reduceAdd, Nat.reduceSub, Nat.reduceBEq, if_true, if_false, Bool.false_eq_true, ↓reduceIte, Option.bind_some, Option.map_some, Bool.or_self, Bool.false_or, Bool.or_false, Bool.true_or, Bool.or_true, List.contains_nil, List.contains_cons, Bool.and_self, Bool.not_false, Bool.not_true, Bool.true_and, Bool.and_true, Bool.false_and, decide_true, decide_false, lendOut, wipeG, wd_ix0, wd_ix1, wd_ix2, i1, i2, lit3]
    rfl
  obtain ⟨n, hn⟩ : ∃ n : Int, n = (as.length : Nat) := ⟨_, rfl⟩
  have c2 : decide ((4 : Int) < n) = false := decide_eq_false (by omega)
  rw [← hn] at hlen
  have hc := hc z pz
  generalize (as.map fun a => D.str a.wd) = L at *
  unfold f_x_law_read m_x_law_read
  simp (config := { decide := false }) only [↓runDef, gOf, slotOf, endMs, ↓seqE, ↓bindE, bindO_ok, bindO_ex, bindO_none, seqO_nx, seqO_rt, seqO_rn, seqO_bk, seqO_ct, seqO_ex, seqO_none, ↓retE, ↓failE, ↓ifE, ↓andE, ↓andK_t, ↓andK_f, ↓orE, ↓orK_t, ↓orK_f, ↓andBE, ↓andBK_t, ↓andBK_f, ↓orBE, ↓orBK_t, ↓orBK_f, ↓chE, ↓chK_t, ↓chK_f, ifO_t, ifO_f, ↓mVa, ↓mFz, ↓mNm, ↓mFrz, ↓mOp2, ↓mOp1, ↓f2E, ↓f1E, ↓fsE, ansO_some, ansO_none, rdAll, Hd.rd, D.flat, ↓mCons, ↓mCall, ↓mTup, ↓mLst, ↓mFrzs, dBool, dadd, dsub, dgt, dMax2, dMin2, ↓mSet, ↓mSetN, ↓mSetIx, mKindN, isKindN, mWr, beq_self_eq_true, Sl.cell, Sl.put, ↓mFrzM, argDs, argD, apartB, putMu, ↓mCallF, ↓mCallN, Hd.isNm, nmu, List.cons_append, List.nil_append, List.length_cons, List.length_nil, List.replicate_succ, List.replicate_zero, List.getElem?_cons_zero, List.getElem?_cons_succ, List.set_cons_zero, List.set_cons_succ, List.any_nil, List.any_cons, Nat.reduceAdd, Nat.reduceSub, Nat.reduceBEq, if_true, if_false, Bool.false_eq_true, ↓reduceIte, Option.bind_some, Option.map_some, Bool.or_self, Bool.false_or, Bool.or_false, Bool.true_or, Bool.or_true, List.contains_nil, List.contains_cons, Bool.and_self, Bool.not_false, Bool.not_true, Bool.true_and, Bool.and_true, Bool.false_and, decide_true, decide_false, mIsi, dIsi, isTy, mMtK, mKind, isKind, sp, hlen, c2, hf, hc, dTuple]
theorem wds_of : ∀ {ws : List Str}, ws.all gdw = true → ∃ as : List Atm, (∀ a ∈ as, a.ok) ∧ ws = as.map Atm.wd
  | [], _ => ⟨[], (fun a h => nomatch h), rfl⟩
  | w :: ws, h => by
    rw [List.all_cons, Bool.and_eq_true] at h
    obtain ⟨a, ok, rfl⟩ := gdw_of h.1
    obtain ⟨as, k, rfl⟩ := wds_of h.2
    refine ⟨a :: as, fun b hb => ?_, rfl⟩
    rcases List.mem_cons.mp hb with rfl | hb
    · exact ok
    · exact k b hb
theorem text_any {x : Str} (h : Tx 900 x) : (∃ as : List Atm, (∀ a ∈ as, a.ok) ∧ 1 ≤ as.length ∧ as.length ≤ 4 ∧ x = words as) ∨ Rf (.str x) := by
  have ne : 1 ≤ (Txt.split x " ").length := List.length_pos_iff.mpr (split_ne x sp_tl (by decide))
  cases c : decide ((Txt.split x " ").length ≤ 4) && (Txt.split x " ").all gdw with
  | false => exact .inr ⟨read_no h (by rw [decide_eq_true ne, Bool.true_and]; exact c), lread_no h c⟩
  | true =>
    rw [Bool.and_eq_true] at c
    have c1 := of_decide_eq_true c.1
    obtain ⟨as, ok, e⟩ := wds_of c.2
    have j := StrLaws.join_split x " "
    rw [e] at ne c1
    rw [List.length_map] at ne c1
    refine .inl ⟨as, ok, ne, c1, ?_⟩
    unfold words
    rw [TL.join_eq, ← e, j]
theorem no_text {d : D} (h : okI d = true) (hs : isTy .str d = false) : Rf d := by
  have h1 := isi_ok (T := .str) h
  rw [hs] at h1
  refine ⟨⟨?_, ?_⟩, ?_⟩
  · unfold f_Question_read m_Question_read
    simp (config := { decide := false }) only [↓runDef, gOf, slotOf, endMs, ↓seqE, ↓bindE, bindO_ok, bindO_ex, bindO_none, seqO_nx, seqO_rt, seqO_rn, seqO_bk, seqO_ct, seqO_ex, seqO_none, ↓retE, ↓failE, ↓ifE, ↓andE, ↓andK_t, ↓andK_f, ↓orE, ↓orK_t, ↓orK_f, ↓andBE, ↓andBK_t, ↓andBK_f, ↓orBE, ↓orBK_t, ↓orBK_f, ↓chE, ↓chK_t, ↓chK_f, ifO_t, ifO_f, ↓mVa, ↓mFz, ↓mNm, ↓mFrz, ↓mOp2, ↓mOp1, ↓f2E, ↓f1E, ↓fsE, ansO_some, ansO_none, rdAll, Hd.rd, D.flat, ↓mCons, ↓mCall, ↓mTup, ↓mLst, ↓mFrzs, dBool, dadd, dsub, dgt, dMax2, dMin2, ↓mSet, ↓mSetN, ↓mSetIx, mKindN, isKindN, mWr, beq_self_eq_true, Sl.cell, Sl.put, ↓mFrzM, argDs, argD, apartB, putMu, ↓mCallF, ↓mCallN, Hd.isNm, nmu, List.cons_append, List.nil_append, List.length_cons, List.length_nil, List.replicate_succ, List.replicate_zero, List.getElem?_cons_zero, List.getElem?_cons_succ, List.set_cons_zero, List.set_cons_succ, List.any_nil, List.any_cons, Nat.reduceAdd, Nat.reduceSub, Nat.reduceBEq, if_true, if_false, Bool.false_eq_true, ↓reduceIte, Option.bind_some, Option.map_some, Bool.or_self, Bool.false_or, Bool.or_false, Bool.true_or, Bool.or_true, List.contains_nil, List.contains_cons, Bool.and_self, Bool.not_false, Bool.not_true, Bool.true_and, Bool.and_true, Bool.false_and, decide_true, decide_false, mIsi, h1, mRaise]
  · unfold fn_Question_read mn_Question_read
    simp (config := { decide := false }) only [↓runDef, gOf, slotOf, endMs, ↓seqE, ↓bindE, bindO_ok, bindO_ex, bindO_none, seqO_nx, seqO_rt, seqO_rn, seqO_bk, seqO_ct, seqO_ex, seqO_none, ↓retE, ↓failE, ↓ifE, ↓andE, ↓andK_t, ↓andK_f, ↓orE, ↓orK_t, ↓orK_f, ↓andBE, ↓andBK_t, ↓andBK_f, ↓orBE, ↓orBK_t, ↓orBK_f, ↓chE, ↓chK_t, ↓chK_f, ifO_t, ifO_f, ↓mVa, ↓mFz, ↓mNm, ↓mFrz, ↓mOp2, ↓mOp1, ↓f2E, ↓f1E, ↓fsE, ansO_some, ansO_none, rdAll, Hd.rd, D.flat, ↓mCons, ↓mCall, ↓mTup, ↓mLst, ↓mFrzs, dBool, dadd, dsub, dgt, dMax2, dMin2, ↓mSet, ↓mSetN, ↓mSetIx, mKindN, isKindN, mWr, beq_self_eq_true, Sl.cell, Sl.put, ↓mFrzM, argDs, argD, apartB, putMu, ↓mCallF, ↓mCallN, Hd.isNm, nmu, List.cons_append, List.nil_append, List.length_cons, List.length_nil, List.replicate_succ, List.replicate_zero, List.getElem?_cons_zero, List.getElem?_cons_succ, List.set_cons_zero, List.set_cons_succ, List.any_nil, List.any_cons, Nat.reduceAdd, Nat.reduceSub, Nat.reduceBEq, if_true, if_false, Bool.false_eq_true, ↓reduceIte, Option.bind_some, Option.map_some, Bool.or_self, Bool.false_or, Bool.or_false, Bool.true_or, Bool.or_true, List.contains_nil, List.contains_cons, Bool.and_self, Bool.not_false, Bool.not_true, Bool.true_and, Bool.and_true, Bool.false_and, decide_true, decide_false, mIsi, h1, mRaise]
  · unfold f_x_law_read m_x_law_read
    simp (config := { decide := false }) only [↓runDef, gOf, slotOf, endMs, ↓seqE, ↓bindE, bindO_ok, bindO_ex, bindO_none, seqO_nx, seqO_rt, seqO_rn, seqO_bk, seqO_ct, seqO_ex, seqO_none, ↓retE, ↓failE, ↓ifE, ↓andE, ↓andK_t, ↓andK_f, ↓orE, ↓orK_t, ↓orK_f, ↓andBE, ↓andBK_t, ↓andBK_f, ↓orBE, ↓orBK_t, ↓orBK_f, ↓chE, ↓chK_t, ↓chK_f, ifO_t, ifO_f, ↓mVa, ↓mFz, ↓mNm, ↓mFrz, ↓mOp2, ↓mOp1, ↓f2E, ↓f1E, ↓fsE, ansO_some, ansO_none, rdAll, Hd.rd, D.flat, ↓mCons, ↓mCall, ↓mTup, ↓mLst, ↓mFrzs, dBool, dadd, dsub, dgt, dMax2, dMin2, ↓mSet, ↓mSetN, ↓mSetIx, mKindN, isKindN, mWr, beq_self_eq_true, Sl.cell, Sl.put, ↓mFrzM, argDs, argD, apartB, putMu, ↓mCallF, ↓mCallN, Hd.isNm, nmu, List.cons_append, List.nil_append, List.length_cons, List.length_nil, List.replicate_succ, List.replicate_zero, List.getElem?_cons_zero, List.getElem?_cons_succ, List.set_cons_zero, List.set_cons_succ, List.any_nil, List.any_cons, Nat.reduceAdd, Nat.reduceSub, Nat.reduceBEq, if_true, if_false, Bool.false_eq_true, ↓reduceIte, Option.bind_some, Option.map_some, Bool.or_self, Bool.false_or, Bool.or_false, Bool.true_or, Bool.or_true, List.contains_nil, List.contains_cons, Bool.and_self, Bool.not_false, Bool.not_true, Bool.true_and, Bool.and_true, Bool.false_and, decide_true, decide_false, mIsi, h1]
end Cq.K61

set_option Elab.async false
set_option linter.all false
set_option maxRecDepth 100000
set_option maxHeartbeats 2000000
namespace Cq.K61
open PySem PyProof.Rows L2 Cq Cq.Sp Cq.S6
def Shn (d : D) : Prop := ∃ z : Str, ∀ (g : Gm) (i : Nat), g[i]? = some (.im d) → mReprX 1 [.im] f_Question___repr (mCons (mNm i) (M.ret [])) g = some (.ok (.str z) g) ∧ mReprX 1 [.im] fh_Question___repr (mCons (mNm i) (M.ret [])) g = some (.ok (.str z) g)
theorem reprX_d {f : Fn} {x : D} {z : Str} (rd : dReprD [x] = some (.str z)) (n : ∀ c fs, x ≠ .ins c fs) {g : Gm} {i : Nat} (hg : g[i]? = some (.im x)) : mReprX 1 [.im] f (mCons (mNm i) (M.ret [])) g = some (.ok (.str z) g) := by
  have n1 : mNm i g = some (.ok (.nm i) g) := nmE hg fun z => nomatch z
  have no : (Hd.nm i).ins g = none := by
    simp only [Hd.ins, hg, Option.bind_some]
    cases x <;> first | rfl | exact absurd rfl (n _ _)
  have rg : (Hd.nm i).rd g = some x := by simp only [Hd.rd, hg]
  unfold mReprX mCons
  simp only [bindE, n1, bindO_ok, retE, no]
  simp only [mFs, rdAll, rg, rd]
  rfl
theorem reprX_at {f : Fn} {as : List Atm} {z : Str} (e : f [qd as] = some (.ret (.str z) [])) {g : Gm} {i : Nat} (hg : g[i]? = some (.im (qd as))) : mReprX 1 [.im] f (mCons (mNm i) (M.ret [])) g = some (.ok (.str z) g) := by
  have n1 : mNm i g = some (.ok (.nm i) g) := nmE hg fun z => nomatch z
  have no : (Hd.nm i).ins g = some (1, [(0, .tup (as.map Atm.d))]) := by
    simp only [Hd.ins, hg, Option.bind_some]
    rfl
  have c := q_clsN hg
  unfold mReprX mCons
  simp only [bindE, n1, bindO_ok, retE, no]
  simp (config := { decide := false }) only [↓runDef, gOf, slotOf, endMs, ↓seqE, ↓bindE, bindO_ok, bindO_ex, bindO_none, seqO_nx, seqO_rt, seqO_rn, seqO_bk, seqO_ct, seqO_ex, seqO_none, ↓retE, ↓failE, ↓ifE, ↓andE, ↓andK_t, ↓andK_f, ↓orE, ↓orK_t, ↓orK_f, ↓andBE, ↓andBK_t, ↓andBK_f, ↓orBE, ↓orBK_t, ↓orBK_f, ↓chE, ↓chK_t, ↓chK_f, ifO_t, ifO_f, ↓mVa, ↓mFz, ↓mNm, ↓mFrz, ↓mOp2, ↓mOp1, ↓f2E, ↓f1E, ↓fsE, ansO_some, ansO_none, rdAll, Hd.rd, D.flat, ↓mCons, ↓mCall, ↓mTup, ↓mLst, ↓mFrzs, dBool, dadd, dsub, dgt, dMax2, dMin2, ↓mSet, ↓mSetN, ↓mSetIx, mKindN, isKindN, mWr, beq_self_eq_true, Sl.cell, Sl.put, ↓mFrzM, argDs, argD, apartB, putMu, ↓mCallF, ↓mCallN, Hd.isNm, nmu, List.cons_append, List.nil_append, List.length_cons, List.length_nil, List.replicate_succ, List.replicate_zero, List.getElem?_cons_zero, List.getElem?_cons_succ, List.set_cons_zero, List.set_cons_succ, List.any_nil, List.any_cons, Nat.reduceAdd, Nat.reduceSub, Nat.reduceBEq, if_true, if_false, Bool.false_eq_true, ↓reduceIte, Option.bind_some, Option.map_some, Bool.or_self, Bool.false_or, Bool.or_false, Bool.true_or, Bool.or_true, List.contains_nil, List.contains_cons, Bool.and_self, Bool.not_false, Bool.not_true, Bool.true_and, Bool.and_true, Bool.false_and, decide_true, decide_false, c, hg, e, dStrChk]
theorem shn_d {x : D} {z : Str} (rd : dReprD [x] = some (.str z)) (n : ∀ c fs, x ≠ .ins c fs) : Shn x := ⟨z, fun g i hg => ⟨reprX_d rd n hg, reprX_d rd n hg⟩⟩
theorem shn_ok {x : D} (h : okR x = true) (s : szR x ≤ 1000000) (d : dpR x ≤ 60) : Shn x := by
  obtain ⟨p, h1, h2, h3, h4⟩ := okR_py h
  refine shn_d (z := p.shown) ?_ fun c fs z => ?_
  · simp only [dReprD, h1]
    rw [if_pos ⟨h2, Nat.le_trans h3 s, Nat.le_trans h4 d⟩]
  · subst z
    simp [okR] at h
theorem shn_q {as : List Atm} (h4 : as.length ≤ 4) : Shn (qd as) := by
  obtain ⟨z, ⟨e1, e2⟩, _⟩ := qrepr_n (as := as) h4
  exact ⟨z, fun g i hg => ⟨reprX_at e1 hg, reprX_at e2 hg⟩⟩
theorem tx_repr {n : Nat} {x : Str} (h : Tx n x) : (reprText x).length ≤ 10 * n + 2 := by
  have := StrLaws.reprText_len x fun c hc => Nat.lt_trans (h.asc c hc) (by decide)
  have := h.len
  omega
theorem right_no {d : D} (s : Shn d) (r : Rf d) : fh_x_law_is_right [d] = some (.ret (.bl true) []) := by
  obtain ⟨z, hz⟩ := s
  obtain ⟨⟨_, b⟩, e⟩ := r
  have r1 := (hz [.im d, .un, .un, .un] 0 rfl).1
  have r2 := (hz [.im d, .im .non, .im (.str z), .un] 0 rfl).2
  have nn : dIsN .non .non = some (.bl true) := rfl
  have es := Sp.eq_self (x := z)
  unfold fh_x_law_is_right mh_x_law_is_right
  generalize mReprX 1 [.im] f_Question___repr (mCons (mNm 0) (M.ret [])) = p1 at r1 ⊢
  generalize mReprX 1 [.im] fh_Question___repr (mCons (mNm 0) (M.ret [])) = p2 at r2 ⊢
  simp (config := { decide := false }) only [↓runDef, gOf, slotOf, endMs, ↓seqE, ↓bindE, bindO_ok, bindO_ex, bindO_none, seqO_nx, seqO_rt, seqO_rn, seqO_bk, seqO_ct, seqO_ex, seqO_none, ↓retE, ↓failE, ↓ifE, ↓andE, ↓andK_t, ↓andK_f, ↓orE, ↓orK_t, ↓orK_f, ↓andBE, ↓andBK_t, ↓andBK_f, ↓orBE, ↓orBK_t, ↓orBK_f, ↓chE, ↓chK_t, ↓chK_f, ifO_t, ifO_f, ↓mVa, ↓mFz, ↓mNm, ↓mFrz, ↓mOp2, ↓mOp1, ↓f2E, ↓f1E, ↓fsE, ansO_some, ansO_none, rdAll, Hd.rd, D.flat, ↓mCons, ↓mCall, ↓mTup, ↓mLst, ↓mFrzs, dBool, dadd, dsub, dgt, dMax2, dMin2, ↓mSet, ↓mSetN, ↓mSetIx, mKindN, isKindN, mWr, beq_self_eq_true, Sl.cell, Sl.put, ↓mFrzM, argDs, argD, apartB, putMu, ↓mCallF, ↓mCallN, Hd.isNm, nmu, List.cons_append, List.nil_append, List.length_cons, List.length_nil, List.replicate_succ, List.replicate_zero, List.getElem?_cons_zero, List.getElem?_cons_succ, List.set_cons_zero, List.set_cons_succ, List.any_nil, List.any_cons, Nat.reduceAdd, Nat.reduceSub, Nat.reduceBEq, if_true, if_false, Bool.false_eq_true, ↓reduceIte, Option.bind_some, Option.map_some, Bool.or_self, Bool.false_or, Bool.or_false, Bool.true_or, Bool.or_true, List.contains_nil, List.contains_cons, Bool.and_self, Bool.not_false, Bool.not_true, Bool.true_and, Bool.and_true, Bool.false_and, decide_true, decide_false, ↓mTry, mPar, e, r1, b, mHand, noEx, noExS, subE, nn, r2, es]
theorem text_c {as : List Atm} {g : Gm} {i : Nat} (ok : ∀ a ∈ as, a.ok) (hl : as.length ≤ 100) (h : g[i]? = some (.im (qd as))) : mMth0 [1] [.im] (fun _ => f_Question_text) (.nm i) g = some (.ok (.str (words as)) g) := by
  have c := call1_ret h (qtext_n ok hl)
  simp only [M.bind, mMth0, q_clsN h, c]
theorem call2_va {f : Fn} {g : Gm} {i : Nat} {a b z : D} (hi : g[i]? = some (.im a)) (h : f [a, b] = some (.ret z [])) : mCallF [.im, .im] f [.nm i, .va b] g = some (.ok z g) := by
  have r := rd_im hi
  simp (config := { decide := false }) only [↓runDef, gOf, slotOf, endMs, ↓seqE, ↓bindE, bindO_ok, bindO_ex, bindO_none, seqO_nx, seqO_rt, seqO_rn, seqO_bk, seqO_ct, seqO_ex, seqO_none, ↓retE, ↓failE, ↓ifE, ↓andE, ↓andK_t, ↓andK_f, ↓orE, ↓orK_t, ↓orK_f, ↓andBE, ↓andBK_t, ↓andBK_f, ↓orBE, ↓orBK_t, ↓orBK_f, ↓chE, ↓chK_t, ↓chK_f, ifO_t, ifO_f, ↓mVa, ↓mFz, ↓mNm, ↓mFrz, ↓mOp2, ↓mOp1, ↓f2E, ↓f1E, ↓fsE, ansO_some, ansO_none, rdAll, Hd.rd, D.flat, ↓mCons, ↓mCall, ↓mTup, ↓mLst, ↓mFrzs, dBool, dadd, dsub, dgt, dMax2, dMin2, ↓mSet, ↓mSetN, ↓mSetIx, mKindN, isKindN, mWr, beq_self_eq_true, Sl.cell, Sl.put, ↓mFrzM, argDs, argD, apartB, putMu, ↓mCallF, ↓mCallN, Hd.isNm, nmu, List.cons_append, List.nil_append, List.length_cons, List.length_nil, List.replicate_succ, List.replicate_zero, List.getElem?_cons_zero, List.getElem?_cons_succ, List.set_cons_zero, List.set_cons_succ, List.any_nil, List.any_cons, Nat.reduceAdd, Nat.reduceSub, Nat.reduceBEq, if_true, if_false, Bool.false_eq_true, ↓reduceIte, Option.bind_some, Option.map_some, Bool.or_self, Bool.false_or, Bool.or_false, Bool.true_or, Bool.or_true, List.contains_nil, List.contains_cons, Bool.and_self, Bool.not_false, Bool.not_true, Bool.true_and, Bool.and_true, Bool.false_and, decide_true, decide_false, h, r, hi]
theorem rhs_va {as : List Atm} {g : Gm} : mRhs 1 (.va (qd as)) g = some (.ok () g) := rfl
theorem right_gen {fl fr fr2 fe fq : Fn} {at1 tx1 : Hd → M D} {r1 r2 ie : M D} {x : Str} {z : Str} {A q : D} (l : fl [.str x] = some (.ret A [])) (h1 : r1 [.im (.str x), .un, .un, .un] = some (.ok (.str z) [.im (.str x), .un, .un, .un])) (b : fr [.glo 1, .str x] = some (.ret q []))
    (nn : dIsN A .non = some (.bl false)) (h3 : at1 (.nm 3) [.im (.str x), .im A, .im (.str z), .im q] = some (.ok A [.im (.str x), .im A, .im (.str z), .im q])) (he : fe [A, A] = some (.ret (.bl true) [])) (h4 : tx1 (.nm 3) [.im (.str x), .im A, .im (.str z), .im q] = some (.ok (.str x) [.im (.str x), .im A, .im (.str z), .im q])) (he2 : fe [.str x, .str x] = some (.ret (.bl true) []))
    (h5 : ie [.im (.str x), .im A, .im (.str z), .im q] = some (.ok (.bl true) [.im (.str x), .im A, .im (.str z), .im q])) :
    runDef [.im] 4 (mSeq (mPar 1 2 (mCons (mVa ((mCons (mNm 0) (M.ret [])).bind (mCallF [.im] fl))) (mCons (mVa r1) (M.ret []))))
    (mSeq (mTry [10, 11, 12, 14, 15, 16, 17, 18] (mSet 3 ((mCons (mNm 0) (M.ret [])).bind fun hs => mCallF [.im, .im] fr (.va (.glo 1) :: hs))) [(14, ((mAndD (mOp2 dIsN (mNm 1) (mVa (M.ret .non))) (mOp2 dEq (mVa r2) (mNm 2))).bind fun d => M.ret (.rt d)))])
    (mSeq ((mOrB ((mOp2 dIsN (mNm 1) (mVa (M.ret .non))).bind dBool) ((((mCons (mVa ((mNm 3).bind at1)) (mCons (mNm 1) (M.ret []))).bind (mCallF [.im, .im] fe)).bind dBool).bind fun c => M.ret (!c))).bind fun k => if k = true then ((M.ret (.bl false)).bind fun d => M.ret (.rt d)) else (M.ret .nx))
    ((mAndD ((mCons (mVa ((mNm 3).bind tx1)) (mCons (mNm 0) (M.ret []))).bind (mCallF [.im, .im] fe)) ie).bind fun d => M.ret (.rt d))))) [.str x] = some (.ret (.bl true) []) := by
  simp (config := { decide := false }) only [↓runDef, gOf, slotOf, endMs, ↓seqE, ↓bindE, bindO_ok, bindO_ex, bindO_none, seqO_nx, seqO_rt, seqO_rn, seqO_bk, seqO_ct, seqO_ex, seqO_none, ↓retE, ↓failE, ↓ifE, ↓andE, ↓andK_t, ↓andK_f, ↓orE, ↓orK_t, ↓orK_f, ↓andBE, ↓andBK_t, ↓andBK_f, ↓orBE, ↓orBK_t, ↓orBK_f, ↓chE, ↓chK_t, ↓chK_f, ifO_t, ifO_f, ↓mVa, ↓mFz, ↓mNm, ↓mFrz, ↓mOp2, ↓mOp1, ↓f2E, ↓f1E, ↓fsE, ansO_some, ansO_none, rdAll, Hd.rd, D.flat, ↓mCons, ↓mCall, ↓mTup, ↓mLst, ↓mFrzs, dBool, dadd, dsub, dgt, dMax2, dMin2, ↓mSet, ↓mSetN, ↓mSetIx, mKindN, isKindN, mWr, beq_self_eq_true, Sl.cell, Sl.put, ↓mFrzM, argDs, argD, apartB, putMu, ↓mCallF, ↓mCallN, Hd.isNm, nmu, List.cons_append, List.nil_append, List.length_cons, List.length_nil, List.replicate_succ, List.replicate_zero, List.getElem?_cons_zero, List.getElem?_cons_succ, List.set_cons_zero, List.set_cons_succ, List.any_nil, List.any_cons, Nat.reduceAdd, Nat.reduceSub, Nat.reduceBEq, if_true, if_false, Bool.false_eq_true, ↓reduceIte, Option.bind_some, Option.map_some, Bool.or_self, Bool.false_or, Bool.or_false, Bool.true_or, Bool.or_true, List.contains_nil, List.contains_cons, Bool.and_self, Bool.not_false, Bool.not_true, Bool.true_and, Bool.and_true, Bool.false_and, decide_true, decide_false, ↓mTry, mPar, l, h1, b, nn, h3, he, h4, he2, h5]
theorem right_yes {as : List Atm} (ok : ∀ a ∈ as, a.ok) (h1 : 1 ≤ as.length) (h4 : as.length ≤ 4) (t : Tx 900 (words as)) : fh_x_law_is_right [.str (words as)] = some (.ret (.bl true) []) := by
  have rp := tx_repr t
  obtain ⟨z, hz⟩ := shn_ok (x := .str (words as)) rfl (by simp only [szR]; omega) (by simp only [dpR]; omega)
  obtain ⟨n, hn, sw⟩ := shw_t ok h4
  have e2 : f_x_law_is_equal [.str (words as), .str (words as)] = some (.ret (.bl true) []) := equal_n (.str rp) (by omega) (k := 1) (by decide)
  have rd := read_n ok h1 h4
  refine right_gen (fl := f_x_law_read) (fr := fn_Question_read) (fe := f_x_law_is_equal) (fr2 := f_Question_read) (fq := f_Question___eq) (z := z) (A := .tup (as.map Atm.d)) (q := qd as) (lread_yes ok h1 h4) (hz _ 0 rfl).1 (fread_yes ok h1 h4) rfl (prop_n rfl) (equal_n sw (by omega) (by decide)) (text_c ok (by omega) rfl) e2 ?_
  have hm : mVa ((mCons (mNm 0) (M.ret [])).bind fun hs => mCallF [.im, .im] f_Question_read (.va (.glo 1) :: hs)) [.im (.str (words as)), .im (.tup (as.map Atm.d)), .im (.str z), .im (qd as)] = some (.ok (.va (qd as)) [.im (.str (words as)), .im (.tup (as.map Atm.d)), .im (.str z), .im (qd as)]) := by
    simp (config := { decide := false }) only [↓runDef, gOf, slotOf, endMs, ↓seqE, ↓bindE, bindO_ok, bindO_ex, bindO_none, seqO_nx, seqO_rt, seqO_rn, seqO_bk, seqO_ct, seqO_ex, seqO_none, ↓retE, ↓failE, ↓ifE, ↓andE, ↓andK_t, ↓andK_f, ↓orE, ↓orK_t, ↓orK_f, ↓andBE, ↓andBK_t, ↓andBK_f, ↓orBE, ↓orBK_t, ↓orBK_f, ↓chE, ↓chK_t, ↓chK_f, ifO_t, ifO_f, ↓mVa, ↓mFz, ↓mNm, ↓mFrz, ↓mOp2, ↓mOp1, ↓f2E, ↓f1E, ↓fsE, ansO_some, ansO_none, rdAll, Hd.rd, D.flat, ↓mCons, ↓mCall, ↓mTup, ↓mLst, ↓mFrzs, dBool, dadd, dsub, dgt, dMax2, dMin2, ↓mSet, ↓mSetN, ↓mSetIx, mKindN, isKindN, mWr, beq_self_eq_true, Sl.cell, Sl.put, ↓mFrzM, argDs, argD, apartB, putMu, ↓mCallF, ↓mCallN, Hd.isNm, nmu, List.cons_append, List.nil_append, List.length_cons, List.length_nil, List.replicate_succ, List.replicate_zero, List.getElem?_cons_zero, List.getElem?_cons_succ, List.set_cons_zero, List.set_cons_succ, List.any_nil, List.any_cons, Nat.reduceAdd, Nat.reduceSub, Nat.reduceBEq, if_true, if_false, Bool.false_eq_true, ↓reduceIte, Option.bind_some, Option.map_some, Bool.or_self, Bool.false_or, Bool.or_false, Bool.true_or, Bool.or_true, List.contains_nil, List.contains_cons, Bool.and_self, Bool.not_false, Bool.not_true, Bool.true_and, Bool.and_true, Bool.false_and, decide_true, decide_false, rd]
  rw [iopA_eq (nm_im rfl) hm (q_clsN rfl) rhs_va]
  have qe := qeq_n (as := as) (bs := as) ok ok (by omega) (by omega)
  rw [decide_eq_true (List.Perm.refl as)] at qe
  exact call2_va rfl qe
def TxD (d : D) : Prop := fh_x_law_is_right [d] = some (.ret (.bl true) [])
theorem txd {n : Nat} {x : Str} (h : Tx n x) (hn : n ≤ 900) : TxD (.str x) := by
  have t := h.mono hn
  rcases text_any t with ⟨as, ok, h1, h4, rfl⟩ | r
  · exact right_yes ok h1 h4 t
  · have rp := tx_repr t
    exact right_no (shn_ok rfl (by simp only [szR]; omega) (by simp only [dpR]; omega)) r
theorem right_val {d : D} (h : okI d = true) (hs : isTy .str d = false) (r : okR d = true) (s : szR d ≤ 1000000) (e : dpR d ≤ 60) : TxD d := right_no (shn_ok r s e) (no_text h hs)
theorem right_q {as : List Atm} (h4 : as.length ≤ 4) : TxD (qd as) := by
  have h1 : dIsi [0, 1] .str (qd as) = some (.bl false) := rfl
  refine right_no (shn_q h4) ⟨⟨?_, ?_⟩, ?_⟩
  · unfold f_Question_read m_Question_read
    simp (config := { decide := false }) only [↓runDef, gOf, slotOf, endMs, ↓seqE, ↓bindE, bindO_ok, bindO_ex, bindO_none, seqO_nx, seqO_rt, seqO_rn, seqO_bk, seqO_ct, seqO_ex, seqO_none, ↓retE, ↓failE, ↓ifE, ↓andE, ↓andK_t, ↓andK_f, ↓orE, ↓orK_t, ↓orK_f, ↓andBE, ↓andBK_t, ↓andBK_f, ↓orBE, ↓orBK_t, ↓orBK_f, ↓chE, ↓chK_t, ↓chK_f, ifO_t, ifO_f, ↓mVa, ↓mFz, ↓mNm, ↓mFrz, ↓mOp2, ↓mOp1, ↓f2E, ↓f1E, ↓fsE, ansO_some, ansO_none, rdAll, Hd.rd, D.flat, ↓mCons, ↓mCall, ↓mTup, ↓mLst, ↓mFrzs, dBool, dadd, dsub, dgt, dMax2, dMin2, ↓mSet, ↓mSetN, ↓mSetIx, mKindN, isKindN, mWr, beq_self_eq_true, Sl.cell, Sl.put, ↓mFrzM, argDs, argD, apartB, putMu, ↓mCallF, ↓mCallN, Hd.isNm, nmu, List.cons_append, List.nil_append, List.length_cons, List.length_nil, List.replicate_succ, List.replicate_zero, List.getElem?_cons_zero, List.getElem?_cons_succ, List.set_cons_zero, List.set_cons_succ, List.any_nil, List.any_cons, Nat.reduceAdd, Nat.reduceSub, Nat.reduceBEq, if_true, if_false, Bool.false_eq_true, ↓reduceIte, Option.bind_some, Option.map_some, Bool.or_self, Bool.false_or, Bool.or_false, Bool.true_or, Bool.or_true, List.contains_nil, List.contains_cons, Bool.and_self, Bool.not_false, Bool.not_true, Bool.true_and, Bool.and_true, Bool.false_and, decide_true, decide_false, mIsi, h1, mRaise]
  · unfold fn_Question_read mn_Question_read
    simp (config := { decide := false }) only [↓runDef, gOf, slotOf, endMs, ↓seqE, ↓bindE, bindO_ok, bindO_ex, bindO_none, seqO_nx, seqO_rt, seqO_rn, seqO_bk, seqO_ct, seqO_ex, seqO_none, ↓retE, ↓failE, ↓ifE, ↓andE, ↓andK_t, ↓andK_f, ↓orE, ↓orK_t, ↓orK_f, ↓andBE, ↓andBK_t, ↓andBK_f, ↓orBE, ↓orBK_t, ↓orBK_f, ↓chE, ↓chK_t, ↓chK_f, ifO_t, ifO_f, ↓mVa, ↓mFz, ↓mNm, ↓mFrz, ↓mOp2, ↓mOp1, ↓f2E, ↓f1E, ↓fsE, ansO_some, ansO_none, rdAll, Hd.rd, D.flat, ↓mCons, ↓mCall, ↓mTup, ↓mLst, ↓mFrzs, dBool, dadd, dsub, dgt, dMax2, dMin2, ↓mSet, ↓mSetN, ↓mSetIx, mKindN, isKindN, mWr, beq_self_eq_true, Sl.cell, Sl.put, ↓mFrzM, argDs, argD, apartB, putMu, ↓mCallF, ↓mCallN, Hd.isNm, nmu, List.cons_append, List.nil_append, List.length_cons, List.length_nil, List.replicate_succ, List.replicate_zero, List.getElem?_cons_zero, List.getElem?_cons_succ, List.set_cons_zero, List.set_cons_succ, List.any_nil, List.any_cons, Nat.reduceAdd, Nat.reduceSub, Nat.reduceBEq, if_true, if_false, Bool.false_eq_true, ↓reduceIte, Option.bind_some, Option.map_some, Bool.or_self, Bool.false_or, Bool.or_false, Bool.true_or, Bool.or_true, List.contains_nil, List.contains_cons, Bool.and_self, Bool.not_false, Bool.not_true, Bool.true_and, Bool.and_true, Bool.false_and, decide_true, decide_false, mIsi, h1, mRaise]
  · unfold f_x_law_read m_x_law_read
    simp (config := { decide := false }) only [↓runDef, gOf, slotOf, endMs, ↓seqE, ↓bindE, bindO_ok, bindO_ex, bindO_none, seqO_nx, seqO_rt, seqO_rn, seqO_bk, seqO_ct, seqO_ex, seqO_none, ↓retE, ↓failE, ↓ifE, ↓andE, ↓andK_t, ↓andK_f, ↓orE, ↓orK_t, ↓orK_f, ↓andBE, ↓andBK_t, ↓andBK_f, ↓orBE, ↓orBK_t, ↓orBK_f, ↓chE, ↓chK_t, ↓chK_f, ifO_t, ifO_f, ↓mVa, ↓mFz, ↓mNm, ↓mFrz, ↓mOp2, ↓mOp1, ↓f2E, ↓f1E, ↓fsE, ansO_some, ansO_none, rdAll, Hd.rd, D.flat, ↓mCons, ↓mCall, ↓mTup, ↓mLst, ↓mFrzs, dBool, dadd, dsub, dgt, dMax2, dMin2, ↓mSet, ↓mSetN, ↓mSetIx, mKindN, isKindN, mWr, beq_self_eq_true, Sl.cell, Sl.put, ↓mFrzM, argDs, argD, apartB, putMu, ↓mCallF, ↓mCallN, Hd.isNm, nmu, List.cons_append, List.nil_append, List.length_cons, List.length_nil, List.replicate_succ, List.replicate_zero, List.getElem?_cons_zero, List.getElem?_cons_succ, List.set_cons_zero, List.set_cons_succ, List.any_nil, List.any_cons, Nat.reduceAdd, Nat.reduceSub, Nat.reduceBEq, if_true, if_false, Bool.false_eq_true, ↓reduceIte, Option.bind_some, Option.map_some, Bool.or_self, Bool.false_or, Bool.or_false, Bool.true_or, Bool.or_true, List.contains_nil, List.contains_cons, Bool.and_self, Bool.not_false, Bool.not_true, Bool.true_and, Bool.and_true, Bool.false_and, decide_true, decide_false, mIsi, h1]
end Cq.K61

set_option Elab.async false
set_option linter.all false
set_option maxRecDepth 100000
set_option maxHeartbeats 4000000
namespace Cq.K61
open PySem PyProof.Rows L2 Cq Cq.Sp Cq.S6
theorem Tx.app {n m : Nat} {x y : Str} (h : Tx n x) (k : Tx m y) : Tx (n + m) (x ++ y) := ⟨by rw [len_app]; have := h.len; have := k.len; omega, fun c hc => by
  rw [TL.tl_append, List.mem_append] at hc
  rcases hc with hc | hc
  · exact h.asc c hc
  · exact k.asc c hc⟩
theorem Tx.slice {n : Nat} {x : Str} (h : Tx n x) (lo hi : Option Int) : Tx n (Txt.slice x lo hi) := by
  refine ⟨Nat.le_trans (Txt.slice_le x lo hi) h.len, fun c hc => ?_⟩
  have e : Txt.slice x lo hi = cutS x lo hi := L2.sliceText_cut x lo hi
  rw [e] at hc
  have hc : c ∈ ((TL.tl x).drop (HT.sIx x.length 0 lo)).take (HT.sIx x.length x.length hi - HT.sIx x.length 0 lo) := hc
  exact h.asc c (List.mem_of_mem_drop (List.mem_of_mem_take hc))
theorem sp_sub {s : Nat} : ∀ (l acc : List Nat) (P : Nat → Prop), (∀ c ∈ acc, P c) → (∀ c ∈ l, P c) → ∀ p ∈ sp s acc l, ∀ c ∈ p, P c
  | [], acc, P, ha, _, p, hp => by rw [List.mem_singleton.mp hp]; exact ha
  | c :: r, acc, P, ha, hl, p, hp => by
    by_cases e : c = s
    · simp only [sp, e, if_true] at hp
      rcases List.mem_cons.mp hp with rfl | hp
      · exact ha
      · exact sp_sub r [] P (fun c hc => nomatch hc) (fun d hd => hl d (List.mem_cons_of_mem _ hd)) p hp
    · simp only [sp, e, if_false] at hp
      refine sp_sub r (acc ++ [c]) P (fun d hd => ?_) (fun d hd => hl d (List.mem_cons_of_mem _ hd)) p hp
      rcases List.mem_append.mp hd with hd | hd
      · exact ha d hd
      · rw [List.mem_singleton.mp hd]; exact hl c List.mem_cons_self
theorem Tx.repl {n : Nat} {x y z : Str} {c : Nat} (h : Tx n x) (hn : n ≤ 200) (hy : y = ⟨#[c]⟩) (hc : c < 128) (hz : Tx 2 z) : ∃ w, Tx (3 * n + 2) w ∧ dRepl y z (.str x) = some (.str w) := by
  have hl := h.len
  have l2 := hz.len
  have rl := TK.replace_len x y z
  have m : (x.length + 1) * z.length ≤ (x.length + 1) * 2 := Nat.mul_le_mul_left _ l2
  refine ⟨Txt.replace x y z, ⟨by omega, ?_⟩, ?_⟩
  · rw [hy, StrLaws.replace_one]
    refine joinS_asc hz.asc _ fun p hp => ?_
    have tp : TL.tl p ∈ (Txt.split x ⟨#[c]⟩).map TL.tl := List.mem_map.mpr ⟨p, hp, rfl⟩
    rw [split_tl x (y := ⟨#[c]⟩) (s := c) rfl hc] at tp
    exact sp_sub _ [] (· < 128) (fun c hc => nomatch hc) h.asc _ tp
  · simp only [dRepl]
    rw [if_pos (by omega)]
theorem Tx.lower {n : Nat} {x : Str} (h : Tx n x) (hn : n ≤ 1000) : ∃ w, Tx n w ∧ fLower (.str x) [] = some (.str w) := by
  have hl := h.len
  have e := lower_ascii (x := x) h.asc
  refine ⟨Txt.lower x, ⟨?_, ?_⟩, ?_⟩
  · rw [e]
    show (x.cps.map lo1).size ≤ n
    rw [Array.size_map]
    exact hl
  · rw [e]
    intro c hc
    have hc : c ∈ (x.cps.map lo1).toList := hc
    rw [Array.toList_map] at hc
    obtain ⟨d, hd, rfl⟩ := List.mem_map.mp hc
    have := h.asc d hd
    unfold lo1
    split <;> omega
  · simp only [fLower]
    rw [if_pos (by omega)]
theorem Tx.rev {n : Nat} {x : Str} (h : Tx n x) (hn : n ≤ 1000) : ∃ w, Tx n w ∧ dRevS (.str x) = some (.str w) := by
  have hl := h.len
  refine ⟨revS x, ⟨?_, fun c hc => ?_⟩, ?_⟩
  · unfold revS
    rw [step_rev_len]
    exact hl
  · have hc : c ∈ (Txt.sliceBy x none none (-1, 0)).cps.toList := hc
    rw [step_rev_list] at hc
    obtain ⟨i, hi, rfl⟩ := List.mem_map.mp hc
    have hi := List.mem_range.mp hi
    have hs : x.length - 1 - i < x.cps.size := by
      show x.length - 1 - i < x.length
      omega
    refine h.asc _ ?_
    show x.cps.getD (x.length - 1 - i) 0 ∈ x.cps.toList
    rw [Array.getD_eq_getD_getElem?, Array.getElem?_eq_getElem hs, Option.getD_some]
    exact Array.getElem_mem_toList hs
  · simp only [dRevS]
    rw [if_pos (by omega)]
theorem tx_add {n m : Nat} {x y : Str} (h : Tx n x) (k : Tx m y) (hl : n + m ≤ 1000) : ∃ w, Tx (n + m) w ∧ dAdd (.str x) (.str y) = some (.str w) := by
  have := h.len
  have := k.len
  exact ⟨_, h.app k, if_pos (by omega)⟩
theorem tx_sl {n : Nat} {x : Str} (h : Tx n x) (hn : n ≤ 1000) (lo hi : Option Int) : ∃ w, Tx n w ∧ dSl (.str x) lo hi = some (.str w) := by
  have := h.len
  refine ⟨_, h.slice lo hi, ?_⟩
  simp only [dSl]
  rw [if_pos (by omega)]
theorem c_tx {n : Nat} {y : Str} (h : y.length ≤ n ∧ ∀ c ∈ TL.tl y, c < 128) : Tx n y := ⟨h.1, h.2⟩
theorem near_n (s : So) {x : Str} (h : Tx 100 x) : ∃ (s' : So) (ys : List Str), (∀ y ∈ ys, Tx 900 y) ∧ ys.length = 15 ∧ f_x_law_near [so s, .str x] = some (.ret (.lst (ys.map .str)) [so s']) := by
  have hlen := h.len
  have l : dLen [.str x] = some (.int (x.length : Nat)) := len_w (by omega)
  obtain ⟨n, hn⟩ : ∃ n : Int, n = (x.length : Nat) := ⟨_, rfl⟩
  rw [← hn] at l
  obtain ⟨r, s1, e1, r0, r1⟩ := draw1 s (n + 1) (by omega) (by omega)
  obtain ⟨k, hk, s2, e2⟩ := choose_s (z := "0129BACDab -+.,:;\n_") s1 (by decide +kernel) (by decide +kernel)
  have tk : Tx 1 ⟨#[k]⟩ := ⟨Nat.le_refl _, fun c hc => by
    have hc : c ∈ [k] := hc
    rw [List.mem_singleton.mp hc]
    exact (by decide +kernel : ∀ c ∈ ("0129BACDab -+.,:;\n_" : Str).cps.toList, c < 128) k hk⟩
  generalize (⟨#[k]⟩ : Str) = y at tk e2
  have tb : Tx 1 " " := c_tx (by decide +kernel)
  have tn : Tx 1 "\n" := c_tx (by decide +kernel)
  obtain ⟨pA, tA, qA⟩ := tx_sl h (by decide) none (some r)
  obtain ⟨pB, tB, qB⟩ := tx_sl h (by decide) (some (r + 1)) none
  obtain ⟨pC, tC, qC⟩ := tx_sl h (by decide) (some r) none
  obtain ⟨y1, t1, q1⟩ := tx_add tA tB (by decide)
  obtain ⟨u2, v2, w2⟩ := tx_add tA tk (by decide)
  obtain ⟨y2, t2, q2⟩ := tx_add v2 tC (by decide)
  obtain ⟨y3, t3, q3⟩ := tx_add v2 tB (by decide)
  obtain ⟨u4, v4, w4⟩ := tx_add h tb (by decide)
  obtain ⟨y4, t4, q4⟩ := tx_add v4 h (by decide)
  obtain ⟨y5, t5, q5⟩ := h.lower (by decide)
  obtain ⟨y6, t6, q6⟩ := tx_add tb h (by decide)
  obtain ⟨y8, t8, q8⟩ := tx_add h tn (by decide)
  obtain ⟨y9, t9, q9⟩ := h.rev (by decide)
  obtain ⟨ya, ta, qa⟩ := h.repl (y := " ") (z := "  ") (c := 32) (by decide) (by decide +kernel) (by decide) (c_tx (by decide +kernel))
  obtain ⟨yb, tb', qb⟩ := h.repl (y := "A") (z := "B") (c := 65) (by decide) (by decide +kernel) (by decide) (c_tx (by decide +kernel))
  obtain ⟨yc, tc', qc⟩ := h.repl (y := "A") (z := "D") (c := 65) (by decide) (by decide +kernel) (by decide) (c_tx (by decide +kernel))
  obtain ⟨yd, td, qd'⟩ := tx_sl h (by decide) none (some 3)
  obtain ⟨ye, te, qe⟩ := tx_sl h (by decide) (some 1) none
  obtain ⟨yf, tf, qf⟩ := h.repl (y := " ") (z := "\n") (c := 32) (by decide) (by decide +kernel) (by decide) (c_tx (by decide +kernel))
  refine ⟨s2, [y1, y2, y3, y4, y5, y6, u4, y8, y9, ya, yb, yc, yd, ye, yf], fun y hy => ?_, rfl, ?_⟩
  · simp only [List.mem_cons, List.not_mem_nil, or_false] at hy
    rcases hy with rfl | rfl | rfl | rfl | rfl | rfl | rfl | rfl | rfl | rfl | rfl | rfl | rfl | rfl | rfl
    · exact t1.mono (by decide)
    · exact t2.mono (by decide)
    · exact t3.mono (by decide)
    · exact t4.mono (by decide)
    · exact t5.mono (by decide)
    · exact t6.mono (by decide)
    · exact v4.mono (by decide)
    · exact t8.mono (by decide)
    · exact t9.mono (by decide)
    · exact ta.mono (by decide)
    · exact tb'.mono (by decide)
    · exact tc'.mono (by decide)
    · exact td.mono (by decide)
    · exact te.mono (by decide)
    · exact tf.mono (by decide)
  · have ca : dCatL (.lst [.str y1, .str y2, .str y3]) (.lst [.str y4, .str y5, .str y6, .str u4, .str y8, .str y9]) = some (.lst [.str y1, .str y2, .str y3, .str y4, .str y5, .str y6, .str u4, .str y8, .str y9]) := rfl
    have ap : fAppend (.lst [.str y1, .str y2, .str y3, .str y4, .str y5, .str y6, .str u4, .str y8, .str y9]) [.str ya] = some (.non, .lst [.str y1, .str y2, .str y3, .str y4, .str y5, .str y6, .str u4, .str y8, .str y9, .str ya]) := rfl
    have cb : dAdd (.lst [.str y1, .str y2, .str y3, .str y4, .str y5, .str y6, .str u4, .str y8, .str y9, .str ya]) (.lst [.str yb, .str yc, .str yd, .str ye, .str yf]) = some (.lst [.str y1, .str y2, .str y3, .str y4, .str y5, .str y6, .str u4, .str y8, .str y9, .str ya, .str yb, .str yc, .str yd, .str ye, .str yf]) := rfl
    unfold f_x_law_near m_x_law_near
    simp (config := { decide := false }) only [↓runDef, gOf, slotOf, endMs, ↓seqE, ↓bindE, bindO_ok, bindO_ex, bindO_none, seqO_nx, seqO_rt, seqO_rn, seqO_bk, seqO_ct, seqO_ex, seqO_none, ↓retE, ↓failE, ↓ifE, ↓andE, ↓andK_t, ↓andK_f, ↓orE, ↓orK_t, ↓orK_f, ↓andBE, ↓andBK_t, ↓andBK_f, ↓orBE, ↓orBK_t, ↓orBK_f, ↓chE, ↓chK_t, ↓chK_f, ifO_t, ifO_f, ↓mVa, ↓mFz, ↓mNm, ↓mFrz, ↓mOp2, ↓mOp1, ↓f2E, ↓f1E, ↓fsE, ansO_some, ansO_none, rdAll, Hd.rd, D.flat, ↓mCons, ↓mCall, ↓mTup, ↓mLst, ↓mFrzs, dBool, dadd, dsub, dgt, dMax2, dMin2, ↓mSet, ↓mSetN, ↓mSetIx, mKindN, isKindN, mWr, beq_self_eq_true, Sl.cell, Sl.put, ↓mFrzM, argDs, argD, apartB, putMu, ↓mCallF, ↓mCallN, Hd.isNm, nmu, List.cons_append, List.nil_append, List.length_cons, List.length_nil, List.replicate_succ, List.replicate_zero, List.getElem?_cons_zero, List.getElem?_cons_succ, List.set_cons_zero, List.set_cons_succ, List.any_nil, List.any_cons, Nat.reduceAdd, Nat.reduceSub, Nat.reduceBEq, if_true, if_false, Bool.false_eq_true, ↓reduceIte, Option.bind_some, Option.map_some, Bool.or_self, Bool.false_or, Bool.or_false, Bool.true_or, Bool.or_true, List.contains_nil, List.contains_cons, Bool.and_self, Bool.not_false, Bool.not_true, Bool.true_and, Bool.and_true, Bool.false_and, decide_true, decide_false, so_flat, mSl, dSome, mPar, l, e1, e2, qA, qB, qC, q1, w2, q2, q3, w4, q4, q5, q6, q8, q9, qa, qb, qc, qd', qe, qf, mWm, ca, ap, cb, mMtK0, mKind, isKind, lit3, lit5, lit6, List.map_cons, List.map_nil]
end Cq.K61

set_option Elab.async false
set_option linter.all false
set_option maxRecDepth 100000
set_option maxHeartbeats 4000000
namespace Cq.K61
open PySem PyProof.Rows L2 Cq Cq.Sp Cq.S6
theorem right_step {i : Nat} {g : Gm} {d : D} (hg : g[i]? = some (.im d)) (h : TxD d) : ((((((mCons (mNm i) (M.ret [])).bind (mCallF [.im] fh_x_law_is_right)).bind dBool).bind fun c => M.ret (!c)).bind fun k => if k = true then ((M.ret (.bl false)).bind fun d => M.ret (.rt d)) else (M.ret .nx)) : M Fl) g = some (.ok .nx g) := by
  unfold TxD at h
  have n := nmE hg (fun z => nomatch z)
  simp (config := { decide := false }) only [↓runDef, gOf, slotOf, endMs, ↓seqE, ↓bindE, bindO_ok, bindO_ex, bindO_none, seqO_nx, seqO_rt, seqO_rn, seqO_bk, seqO_ct, seqO_ex, seqO_none, ↓retE, ↓failE, ↓ifE, ↓andE, ↓andK_t, ↓andK_f, ↓orE, ↓orK_t, ↓orK_f, ↓andBE, ↓andBK_t, ↓andBK_f, ↓orBE, ↓orBK_t, ↓orBK_f, ↓chE, ↓chK_t, ↓chK_f, ifO_t, ifO_f, ↓mVa, ↓mFz, ↓mNm, ↓mFrz, ↓mOp2, ↓mOp1, ↓f2E, ↓f1E, ↓fsE, ansO_some, ansO_none, rdAll, Hd.rd, D.flat, ↓mCons, ↓mCall, ↓mTup, ↓mLst, ↓mFrzs, dBool, dadd, dsub, dgt, dMax2, dMin2, ↓mSet, ↓mSetN, ↓mSetIx, mKindN, isKindN, mWr, beq_self_eq_true, Sl.cell, Sl.put, ↓mFrzM, argDs, argD, apartB, putMu, ↓mCallF, ↓mCallN, Hd.isNm, nmu, List.cons_append, List.nil_append, List.length_cons, List.length_nil, List.replicate_succ, List.replicate_zero, List.getElem?_cons_zero, List.getElem?_cons_succ, List.set_cons_zero, List.set_cons_succ, List.any_nil, List.any_cons, Nat.reduceAdd, Nat.reduceSub, Nat.reduceBEq, if_true, if_false, Bool.false_eq_true, ↓reduceIte, Option.bind_some, Option.map_some, Bool.or_self, Bool.false_or, Bool.or_false, Bool.true_or, Bool.or_true, List.contains_nil, List.contains_cons, Bool.and_self, Bool.not_false, Bool.not_true, Bool.true_and, Bool.and_true, Bool.false_and, decide_true, decide_false, hg, h, n, List.length_cons]
theorem words_tx {as : List Atm} (ok : ∀ a ∈ as, a.ok) (h4 : as.length ≤ 4) : Tx 100 (words as) := by
  refine ⟨words_len h4, ?_⟩
  unfold words
  rw [TL.join_eq]
  refine joinS_asc (by decide +kernel) _ fun x hx c hc => ?_
  obtain ⟨a, ha, rfl⟩ := List.mem_map.mp hx
  have ok := ok a ha
  have hk := ok.hk
  have := ok.v1
  have := ok.w1
  have hc : c ∈ [a.k, 48 + a.v.toNat, 48 + a.w.toNat] := hc
  simp only [List.mem_cons, List.not_mem_nil, or_false] at hc
  omega
/-- one text and what is near it -/
theorem lap_ok {s0 s1 s3 s4 s5 s6 : Sl} (s : So) : ∃ (s' : So) (x : Str) (z5 : Sl), (∃ as : List Atm, (∀ a ∈ as, a.ok) ∧ 1 ≤ as.length ∧ as.length ≤ 4 ∧ x = words as) ∧ b_law_4 [s0, s1, .ow (so s), s3, s4, s5, s6] = some (.ok .nx [s0, s1, .ow (so s'), s3, .im (.str x), z5, s6]) := by
  obtain ⟨t1, as, ok, h1, h4, e1⟩ := some_n (m := 4) (by decide) s
  have h4 : as.length ≤ 4 := h4
  have e2 : f_x_law_words [.lst (as.map Atm.d)] = some (.ret (.str (words as)) []) := words_ok ok h4
  have tx := words_tx ok h4
  obtain ⟨t2, ys, hy, yl, e3⟩ := near_n t1 tx
  have ca : dAdd (.lst [.str (words as)]) (.lst (ys.map .str)) = some (.lst (.str (words as) :: ys.map .str)) := by
    simp only [dAdd]
    rw [if_pos (by rw [List.length_map, yl, List.length_singleton]; decide)]
    rfl
  have hd : ∀ d ∈ (D.str (words as) :: ys.map .str), TxD d := fun d hd => by
    rcases List.mem_cons.mp hd with rfl | hd
    · exact txd tx (by decide)
    · obtain ⟨y, h, rfl⟩ := List.mem_map.mp hd
      exact txd (hy y h) (by decide)
  refine ⟨t2, words as, ?_⟩
  have hq : ∃ bs : List Atm, (∀ a ∈ bs, a.ok) ∧ 1 ≤ bs.length ∧ bs.length ≤ 4 ∧ words as = words bs := ⟨as, ok, h1, h4, rfl⟩
  generalize words as = x at *
  generalize (D.str x :: ys.map .str) = L at *
  have hi : i_law_1 [s0, s1, .ow (so t1), s3, .im (.str x), s5, s6] = some (.ok L [s0, s1, .ow (so t2), s3, .im (.str x), s5, s6]) := by
    unfold i_law_1 mIt
    simp (config := { decide := false }) only [↓runDef, gOf, slotOf, endMs, ↓seqE, ↓bindE, bindO_ok, bindO_ex, bindO_none, seqO_nx, seqO_rt, seqO_rn, seqO_bk, seqO_ct, seqO_ex, seqO_none, ↓retE, ↓failE, ↓ifE, ↓andE, ↓andK_t, ↓andK_f, ↓orE, ↓orK_t, ↓orK_f, ↓andBE, ↓andBK_t, ↓andBK_f, ↓orBE, ↓orBK_t, ↓orBK_f, ↓chE, ↓chK_t, ↓chK_f, ifO_t, ifO_f, ↓mVa, ↓mFz, ↓mNm, ↓mFrz, ↓mOp2, ↓mOp1, ↓f2E, ↓f1E, ↓fsE, ansO_some, ansO_none, rdAll, Hd.rd, D.flat, ↓mCons, ↓mCall, ↓mTup, ↓mLst, ↓mFrzs, dBool, dadd, dsub, dgt, dMax2, dMin2, ↓mSet, ↓mSetN, ↓mSetIx, mKindN, isKindN, mWr, beq_self_eq_true, Sl.cell, Sl.put, ↓mFrzM, argDs, argD, apartB, putMu, ↓mCallF, ↓mCallN, Hd.isNm, nmu, List.cons_append, List.nil_append, List.length_cons, List.length_nil, List.replicate_succ, List.replicate_zero, List.getElem?_cons_zero, List.getElem?_cons_succ, List.set_cons_zero, List.set_cons_succ, List.any_nil, List.any_cons, Nat.reduceAdd, Nat.reduceSub, Nat.reduceBEq, if_true, if_false, Bool.false_eq_true, ↓reduceIte, Option.bind_some, Option.map_some, Bool.or_self, Bool.false_or, Bool.or_false, Bool.true_or, Bool.or_true, List.contains_nil, List.contains_cons, Bool.and_self, Bool.not_false, Bool.not_true, Bool.true_and, Bool.and_true, Bool.false_and, decide_true, decide_false, so_flat, e3, lit1, ca, itD]
  obtain ⟨g', k1, _, z5, rfl⟩ := forL_run (T := tgNm 5) (body := b_law_2) (fun r g' => (∀ d ∈ r, TxD d) ∧ ∃ z5, g' = [s0, s1, .ow (so t2), s3, .im (.str x), z5, s6]) (ds := L)
    (g := [s0, s1, .ow (so t2), s3, .im (.str x), s5, s6]) ⟨hd, _, rfl⟩ fun d r g' ⟨hd, z5, eg⟩ => by
      subst eg
      exact ⟨_, _, rfl, right_step (i := 5) (d := d) rfl (hd d List.mem_cons_self), fun d' hd' => hd d' (List.mem_cons_of_mem _ hd'), _, rfl⟩
  have hf : mFor none i_law_1 (tgNm 5) b_law_2 [s0, s1, .ow (so t1), s3, .im (.str x), s5, s6] = _ := (for_st hi).trans k1
  refine ⟨z5, hq, ?_⟩
  clear hd hi k1
  generalize as.map Atm.d = A at *
  unfold b_law_4
  simp (config := { decide := false }) only [↓runDef, gOf, slotOf, endMs, ↓seqE, ↓bindE, bindO_ok, bindO_ex, bindO_none, seqO_nx, seqO_rt, seqO_rn, seqO_bk, seqO_ct, seqO_ex, seqO_none, ↓retE, ↓failE, ↓ifE, ↓andE, ↓andK_t, ↓andK_f, ↓orE, ↓orK_t, ↓orK_f, ↓andBE, ↓andBK_t, ↓andBK_f, ↓orBE, ↓orBK_t, ↓orBK_f, ↓chE, ↓chK_t, ↓chK_f, ifO_t, ifO_f, ↓mVa, ↓mFz, ↓mNm, ↓mFrz, ↓mOp2, ↓mOp1, ↓f2E, ↓f1E, ↓fsE, ansO_some, ansO_none, rdAll, Hd.rd, D.flat, ↓mCons, ↓mCall, ↓mTup, ↓mLst, ↓mFrzs, dBool, dadd, dsub, dgt, dMax2, dMin2, ↓mSet, ↓mSetN, ↓mSetIx, mKindN, isKindN, mWr, beq_self_eq_true, Sl.cell, Sl.put, ↓mFrzM, argDs, argD, apartB, putMu, ↓mCallF, ↓mCallN, Hd.isNm, nmu, List.cons_append, List.nil_append, List.length_cons, List.length_nil, List.replicate_succ, List.replicate_zero, List.getElem?_cons_zero, List.getElem?_cons_succ, List.set_cons_zero, List.set_cons_succ, List.any_nil, List.any_cons, Nat.reduceAdd, Nat.reduceSub, Nat.reduceBEq, if_true, if_false, Bool.false_eq_true, ↓reduceIte, Option.bind_some, Option.map_some, Bool.or_self, Bool.false_or, Bool.or_false, Bool.true_or, Bool.or_true, List.contains_nil, List.contains_cons, Bool.and_self, Bool.not_false, Bool.not_true, Bool.true_and, Bool.and_true, Bool.false_and, decide_true, decide_false, so_flat, e1, e2, hf]
def odds (x : Str) (q : D) : List D := [.non, .bl true, .int 0, .int 100, .tup [], .lst [], .dik [], .lst [.str x], .tup [.str x], .tup [.str "A", .int 0, .int 1], .tup [.str "A01"], q]
theorem lst_v {x : Str} (h : Tx 100 x) : TxD (.lst [.str x]) := by
  have rp := tx_repr h
  exact right_val rfl rfl rfl (by simp only [szR, szRs]; omega) (by simp only [dpR, dpRs]; omega)
theorem tup_v {x : Str} (h : Tx 100 x) : TxD (.tup [.str x]) := by
  have rp := tx_repr h
  exact right_val rfl rfl rfl (by simp only [szR, szRs]; omega) (by simp only [dpR, dpRs]; omega)
theorem odds_ok {as : List Atm} (ok : ∀ a ∈ as, a.ok) (h4 : as.length ≤ 4) : ∀ d ∈ odds (words as) (qd as), TxD d := by
  intro d hd
  simp only [odds, List.mem_cons, List.not_mem_nil, or_false] at hd
  rcases hd with rfl | rfl | rfl | rfl | rfl | rfl | rfl | rfl | rfl | rfl | rfl | rfl
  · exact right_val rfl rfl rfl (by decide +kernel) (by decide +kernel)
  · exact right_val rfl rfl rfl (by decide +kernel) (by decide +kernel)
  · exact right_val rfl rfl rfl (by decide +kernel) (by decide +kernel)
  · exact right_val rfl rfl rfl (by decide +kernel) (by decide +kernel)
  · exact right_val rfl rfl rfl (by decide +kernel) (by decide +kernel)
  · exact right_val rfl rfl rfl (by decide +kernel) (by decide +kernel)
  · exact right_val rfl rfl rfl (by decide +kernel) (by decide +kernel)
  · exact lst_v (words_tx ok h4)
  · exact tup_v (words_tx ok h4)
  · exact right_val rfl rfl rfl (by decide +kernel) (by decide +kernel)
  · exact right_val rfl rfl rfl (by decide +kernel) (by decide +kernel)
  · exact right_q h4
def texts : List Str := ["", " ", "A", "A0", "A001", "A1", "a01", "D01", "A-1", "A0a", "A01 ", "A01 A", "A01 A01 A01 A01 A01"]
theorem texts_ok : ∀ d ∈ texts.map D.str, TxD d := by
  intro d hd
  obtain ⟨x, hx, rfl⟩ := List.mem_map.mp hd
  exact txd (n := 20) (c_tx ((by decide +kernel : ∀ x ∈ texts, x.length ≤ 20 ∧ ∀ c ∈ TL.tl x, c < 128) x hx)) (by decide)
theorem mul4 : dMulS (.str " A01") (.int 4) = some (.str " A01 A01 A01 A01") := by
  have e : Txt.mul " A01" 4 = " A01 A01 A01 A01" := by decide +kernel
  simp only [dMulS]
  rw [if_pos (by decide +kernel), e]
theorem add5 : dAdd (.str "A01") (.str " A01 A01 A01 A01") = some (.str "A01 A01 A01 A01 A01") := by
  have e : ("A01" : Str) ++ " A01 A01 A01 A01" = "A01 A01 A01 A01 A01" := by decide +kernel
  simp only [dAdd]
  rw [if_pos (by decide +kernel), e]
def textL : List D := [.str "", .str " ", .str "A", .str "A0", .str "A001", .str "A1", .str "a01", .str "D01", .str "A-1", .str "A0a", .str "A01 ", .str "A01 A", .str "A01 A01 A01 A01 A01"]
/-- one cell -/
theorem cell_lap {ns : List Int} {s2 s3 s4 s5 s6 : Sl} {i : Int} (hi : 0 ≤ i) :
    ∃ z2 z3 z4 z5 z6, b_law_9 [.im (.scr ns), .im (.int i), s2, s3, s4, s5, s6] = some (.ok .nx [.im (.scr ns), .im (.int i), z2, z3, z4, z5, z6]) := by
  obtain ⟨v, hv⟩ := cell_ok ns i hi
  obtain ⟨s, hs⟩ := source_ok v
  have i3 : i_law_3 [.im (.scr ns), .im (.int i), .ow (so s), s3, s4, s5, s6] = some (.ok (rngD 0 6) [.im (.scr ns), .im (.int i), .ow (so s), s3, s4, s5, s6]) := i3_gen (v := 6) (by decide) (by decide) _
  obtain ⟨g', h1, hI⟩ := forL_run (T := tgNm 3) (body := b_law_4) (fun rr g => ∃ (s' : So) (z3 z4 z5 z6 : Sl), (rr.length < 6 → ∃ as : List Atm, (∀ a ∈ as, a.ok) ∧ 1 ≤ as.length ∧ as.length ≤ 4 ∧ z4 = .im (.str (words as))) ∧ g = [.im (.scr ns), .im (.int i), .ow (so s'), z3, z4, z5, z6]) (ds := rngD 0 6)
    (g := [.im (.scr ns), .im (.int i), .ow (so s), s3, s4, s5, s6]) ⟨s, _, _, _, _, fun h => absurd h (by decide), rfl⟩ fun d rr g ⟨s', z3, z4, z5, z6, _, eg⟩ => by
      subst eg
      obtain ⟨u, x, y5, ⟨as, ok, a1, a4, rfl⟩, e⟩ := lap_ok (s0 := .im (.scr ns)) (s1 := .im (.int i)) (s3 := .im d) (s4 := z4) (s5 := z5) (s6 := z6) s'
      exact ⟨_, _, rfl, e, u, _, _, _, _, fun _ => ⟨as, ok, a1, a4, rfl⟩, rfl⟩
  obtain ⟨s', z3, z4, z5, z6, h4, rfl⟩ := hI
  obtain ⟨as, ok, a1, a4, rfl⟩ := h4 (by decide)
  have hf : mFor none i_law_3 (tgNm 3) b_law_4 [.im (.scr ns), .im (.int i), .ow (so s), s3, s4, s5, s6] = _ := (for_st i3).trans h1
  have rd := read_n ok a1 a4
  have od := odds_ok ok a4
  have i5 : i_law_5 [.im (.scr ns), .im (.int i), .ow (so s'), z3, .im (.str (words as)), z5, z6] = some (.ok (odds (words as) (qd as)) [.im (.scr ns), .im (.int i), .ow (so s'), z3, .im (.str (words as)), z5, z6]) := by
    unfold odds
    generalize words as = x at *
    generalize qd as = q at *
    unfold i_law_5 mIt
    simp (config := { decide := false }) only [↓runDef, gOf, slotOf, endMs, ↓seqE, ↓bindE, bindO_ok, bindO_ex, bindO_none, seqO_nx, seqO_rt, seqO_rn, seqO_bk, seqO_ct, seqO_ex, seqO_none, ↓retE, ↓failE, ↓ifE, ↓andE, ↓andK_t, ↓andK_f, ↓orE, ↓orK_t, ↓orK_f, ↓andBE, ↓andBK_t, ↓andBK_f, ↓orBE, ↓orBK_t, ↓orBK_f, ↓chE, ↓chK_t, ↓chK_f, ifO_t, ifO_f, ↓mVa, ↓mFz, ↓mNm, ↓mFrz, ↓mOp2, ↓mOp1, ↓f2E, ↓f1E, ↓fsE, ansO_some, ansO_none, rdAll, Hd.rd, D.flat, ↓mCons, ↓mCall, ↓mTup, ↓mLst, ↓mFrzs, dBool, dadd, dsub, dgt, dMax2, dMin2, ↓mSet, ↓mSetN, ↓mSetIx, mKindN, isKindN, mWr, beq_self_eq_true, Sl.cell, Sl.put, ↓mFrzM, argDs, argD, apartB, putMu, ↓mCallF, ↓mCallN, Hd.isNm, nmu, List.cons_append, List.nil_append, List.length_cons, List.length_nil, List.replicate_succ, List.replicate_zero, List.getElem?_cons_zero, List.getElem?_cons_succ, List.set_cons_zero, List.set_cons_succ, List.any_nil, List.any_cons, Nat.reduceAdd, Nat.reduceSub, Nat.reduceBEq, if_true, if_false, Bool.false_eq_true, ↓reduceIte, Option.bind_some, Option.map_some, Bool.or_self, Bool.false_or, Bool.or_false, Bool.true_or, Bool.or_true, List.contains_nil, List.contains_cons, Bool.and_self, Bool.not_false, Bool.not_true, Bool.true_and, Bool.and_true, Bool.false_and, decide_true, decide_false, rd, lit0, lit1, lit3, show (12 : Nat) ≤ 1000000 by decide, itD]
  generalize odds (words as) (qd as) = L5 at *
  obtain ⟨g', k5, _, y5, rfl⟩ := forL_run (T := tgNm 5) (body := b_law_6) (fun r g' => (∀ d ∈ r, TxD d) ∧ ∃ y5, g' = [.im (.scr ns), .im (.int i), .ow (so s'), z3, .im (.str (words as)), y5, z6]) (ds := L5)
    (g := [.im (.scr ns), .im (.int i), .ow (so s'), z3, .im (.str (words as)), z5, z6]) ⟨od, _, rfl⟩ fun d r g' ⟨hd, y5, eg⟩ => by
      subst eg
      exact ⟨_, _, rfl, right_step (i := 5) (d := d) rfl (hd d List.mem_cons_self), fun d' hd' => hd d' (List.mem_cons_of_mem _ hd'), _, rfl⟩
  have hf5 : mFor none i_law_5 (tgNm 5) b_law_6 [.im (.scr ns), .im (.int i), .ow (so s'), z3, .im (.str (words as)), z5, z6] = _ := (for_st i5).trans k5
  have tk := texts_ok
  change ∀ d ∈ textL, TxD d at tk
  obtain ⟨g', k7, _, y7, rfl⟩ := forL_run (T := tgNm 5) (body := b_law_7) (fun r g' => (∀ d ∈ r, TxD d) ∧ ∃ y7, g' = [.im (.scr ns), .im (.int i), .ow (so s'), z3, .im (.str (words as)), y7, .im (.lst textL)]) (ds := textL)
    (g := [.im (.scr ns), .im (.int i), .ow (so s'), z3, .im (.str (words as)), y5, .im (.lst textL)]) ⟨tk, _, rfl⟩ fun d r g' ⟨hd, y7, eg⟩ => by
      subst eg
      exact ⟨_, _, rfl, right_step (i := 5) (d := d) rfl (hd d List.mem_cons_self), fun d' hd' => hd d' (List.mem_cons_of_mem _ hd'), _, rfl⟩
  have hf7 : mFor (some 6) (mItN 6) (tgNm 5) b_law_7 [.im (.scr ns), .im (.int i), .ow (so s'), z3, .im (.str (words as)), y5, .im (.lst textL)] = _ := (for_im rfl rfl).trans k7
  refine ⟨.ow (so s'), z3, .im (.str (words as)), y7, .im (.lst textL), ?_⟩
  generalize words as = x at *
  unfold b_law_9
  unfold textL at hf7 ⊢
  have m4 := mul4
  have a5 := add5
  simp (config := { decide := false }) only [↓runDef, gOf, slotOf, endMs, ↓seqE, ↓bindE, bindO_ok, bindO_ex, bindO_none, seqO_nx, seqO_rt, seqO_rn, seqO_bk, seqO_ct, seqO_ex, seqO_none, ↓retE, ↓failE, ↓ifE, ↓andE, ↓andK_t, ↓andK_f, ↓orE, ↓orK_t, ↓orK_f, ↓andBE, ↓andBK_t, ↓andBK_f, ↓orBE, ↓orBK_t, ↓orBK_f, ↓chE, ↓chK_t, ↓chK_f, ifO_t, ifO_f, ↓mVa, ↓mFz, ↓mNm, ↓mFrz, ↓mOp2, ↓mOp1, ↓f2E, ↓f1E, ↓fsE, ansO_some, ansO_none, rdAll, Hd.rd, D.flat, ↓mCons, ↓mCall, ↓mTup, ↓mLst, ↓mFrzs, dBool, dadd, dsub, dgt, dMax2, dMin2, ↓mSet, ↓mSetN, ↓mSetIx, mKindN, isKindN, mWr, beq_self_eq_true, Sl.cell, Sl.put, ↓mFrzM, argDs, argD, apartB, putMu, ↓mCallF, ↓mCallN, Hd.isNm, nmu, List.cons_append, List.nil_append, List.length_cons, List.length_nil, List.replicate_succ, List.replicate_zero, List.getElem?_cons_zero, List.getElem?_cons_succ, List.set_cons_zero, List.set_cons_succ, List.any_nil, List.any_cons, Nat.reduceAdd, Nat.reduceSub, Nat.reduceBEq, if_true, if_false, Bool.false_eq_true, ↓reduceIte, Option.bind_some, Option.map_some, Bool.or_self, Bool.false_or, Bool.or_false, Bool.true_or, Bool.or_true, List.contains_nil, List.contains_cons, Bool.and_self, Bool.not_false, Bool.not_true, Bool.true_and, Bool.and_true, Bool.false_and, decide_true, decide_false, hv, hs, hf, hf5, m4, a5, show (13 : Nat) ≤ 1000000 by decide, hf7]
theorem law_ok (ns : List Int) (hl : ns.length ≤ 63) : f_law [.scr ns] = some (.ret (.bl true) []) := by
  have hi : i_law_8 [.im (.scr ns), .un, .un, .un, .un, .un, .un] = some (.ok (rngD 0 (max 1 (min (ns.length : Int) 2)).toNat) [.im (.scr ns), .un, .un, .un, .un, .un, .un]) := i5_gen hl (by decide) _ rfl
  obtain ⟨g', h1, _, z1, z2, z3, z4, z5, z6, rfl⟩ := forL_run (T := tgNm 1) (body := b_law_9) (fun r g => (∀ d ∈ r, ∃ i : Nat, d = .int (0 + (i : Int))) ∧ ∃ z1 z2 z3 z4 z5 z6 : Sl, g = [.im (.scr ns), z1, z2, z3, z4, z5, z6]) (ds := rngD 0 (max 1 (min (ns.length : Int) 2)).toNat)
    (g := [.im (.scr ns), .un, .un, .un, .un, .un, .un]) ⟨fun d hd => (mem_rng hd).imp fun _ z => z.2, _, _, _, _, _, _, rfl⟩ fun d r g ⟨hd, z1, z2, z3, z4, z5, z6, eg⟩ => by
      subst eg
      obtain ⟨i, rfl⟩ := hd d List.mem_cons_self
      obtain ⟨y2, y3, y4, y5, y6, e⟩ := cell_lap (ns := ns) (s2 := z2) (s3 := z3) (s4 := z4) (s5 := z5) (s6 := z6) (i := 0 + (i : Int)) (by omega)
      exact ⟨_, _, rfl, e, fun d' hd' => hd d' (List.mem_cons_of_mem _ hd'), _, _, _, _, _, _, rfl⟩
  have hf : mFor none i_law_8 (tgNm 1) b_law_9 [.im (.scr ns), .un, .un, .un, .un, .un, .un] = _ := (for_st hi).trans h1
  unfold f_law m_law
  simp (config := { decide := false }) only [↓runDef, gOf, slotOf, endMs, ↓seqE, ↓bindE, bindO_ok, bindO_ex, bindO_none, seqO_nx, seqO_rt, seqO_rn, seqO_bk, seqO_ct, seqO_ex, seqO_none, ↓retE, ↓failE, ↓ifE, ↓andE, ↓andK_t, ↓andK_f, ↓orE, ↓orK_t, ↓orK_f, ↓andBE, ↓andBK_t, ↓andBK_f, ↓orBE, ↓orBK_t, ↓orBK_f, ↓chE, ↓chK_t, ↓chK_f, ifO_t, ifO_f, ↓mVa, ↓mFz, ↓mNm, ↓mFrz, ↓mOp2, ↓mOp1, ↓f2E, ↓f1E, ↓fsE, ansO_some, ansO_none, rdAll, Hd.rd, D.flat, ↓mCons, ↓mCall, ↓mTup, ↓mLst, ↓mFrzs, dBool, dadd, dsub, dgt, dMax2, dMin2, ↓mSet, ↓mSetN, ↓mSetIx, mKindN, isKindN, mWr, beq_self_eq_true, Sl.cell, Sl.put, ↓mFrzM, argDs, argD, apartB, putMu, ↓mCallF, ↓mCallN, Hd.isNm, nmu, List.cons_append, List.nil_append, List.length_cons, List.length_nil, List.replicate_succ, List.replicate_zero, List.getElem?_cons_zero, List.getElem?_cons_succ, List.set_cons_zero, List.set_cons_succ, List.any_nil, List.any_cons, Nat.reduceAdd, Nat.reduceSub, Nat.reduceBEq, if_true, if_false, Bool.false_eq_true, ↓reduceIte, Option.bind_some, Option.map_some, Bool.or_self, Bool.false_or, Bool.or_false, Bool.true_or, Bool.or_true, List.contains_nil, List.contains_cons, Bool.and_self, Bool.not_false, Bool.not_true, Bool.true_and, Bool.and_true, Bool.false_and, decide_true, decide_false, hf]
end Cq.K61

set_option Elab.async false
set_option linter.all false
set_option maxRecDepth 100000
set_option maxHeartbeats 0
namespace Cq
open PySem PySem.Spec PyProof.Rows L2
def noTb (H : Hp) : Hp := fun x => match H x with | some (.tbl _) => none | o => o
theorem noTb_eq {H : Hp} {a : Addr} {o : HO} (h : H a = some o) (n : NB o) : noTb H a = some o := by
  unfold noTb; rw [h]
  cases o with
  | tbl ps => exact absurd rfl (n ps)
  | _ => rfl
theorem noTb_sub (H : Hp) : Sub (noTb H) H := fun a o e => by
  unfold noTb at e
  cases h : H a with
  | none => rw [h] at e; cases e
  | some u =>
    rw [h] at e
    cases u with
    | tbl ps => cases e
    | _ => exact e
theorem noTb_nt (H : Hp) : ∀ x ps, noTb H x ≠ some (.tbl ps) := fun x ps e => by
  unfold noTb at e
  cases h : H x with
  | none => rw [h] at e; cases e
  | some u =>
    rw [h] at e
    cases u with
    | tbl ps => cases e
    | _ => cases e
theorem noTb_seq {K : Frag} {H : Hp} {a : Addr} {xs : List V} (h : SqL K H a xs) : SqL K (noTb H) a xs := by
  rcases h with (h | ⟨o, h⟩) | h
  · exact .inl (.inl (noTb_eq h fun _ z => nomatch z))
  · exact .inl (.inr ⟨o, noTb_eq h fun _ z => nomatch z⟩)
  · exact .inr h
/-- the script alone -/
theorem sp_law {K : Frag} {f : Fn} {H : Hp} {a : Addr} {ns : List Int} (hs : SqL K H a (ns.map V.int)) (h : f [.scr ns] = some (.ret (.bl true) [])) (hT : ∀ P ∈ tT K, H P = some (.tbl #[])) : spF K [.im] f [.ref a] H (fun v _ => v = .bl true) fun _ _ _ => False := by
  refine ⟨noTb H, [.scr ns], rfl, rfl, ⟨noTb_sub H, rfl, fun i s e => ?_, fun i j d e a b x ij c1 => ?_, fun i d a e => ?_, ⟨fun p hp => by obtain ⟨P, hP, rfl⟩ := List.mem_map.mp hp; exact LamX.TabS.nil (hT P hP), noTb_nt H⟩⟩, ?_⟩
  · cases i with
    | zero => cases e; exact ⟨.ref a, rfl, .scr (noTb_seq hs)⟩
    | succ i => cases e
  · cases i with
    | zero => cases c1
    | succ i => cases c1
  · cases i with
    | zero => cases e
    | succ i => cases e
  · rw [h]
    exact fun v F' H' _ _ r => by cases r; rfl
theorem cx_none {P : Program} {w : World} {H : Hp} {s : Shared} {e : Value} {s' : Shared} (h : L2.CX P w [] H s (fun _ _ _ => False) e s') : False := by
  obtain ⟨_, _, _, _, _, _, _, _, _, _, _, _, z⟩ := h
  exact z
end Cq

set_option Elab.async false
set_option linter.all false
set_option maxRecDepth 100000
set_option maxHeartbeats 0
open PySem PySem.W PySem.Calls PyProof.Rows
theorem PySem.Challenge.cw_countalike_k61_texts_of_questions_holds : PySem.Challenge.rw_countalike_k61_texts_of_questions.Holds := by
  w_on; o_law
  refine HandSHeadRun.head_any (r := OpenLaw.row PySem.Challenge.rw_countalike_k61_texts_of_questions) (q := view (OpenLaw.row PySem.Challenge.rw_countalike_k61_texts_of_questions).prog [58]) (H := Cq.K61.hk) (ob := Cq.K61.ob) (M := 9000) (loose := Cq.K61.loose) (d := HandSHeadRun.topDef (OpenLaw.row PySem.Challenge.rw_countalike_k61_texts_of_questions).prog 58) (kwd := []) Cq.K61.ob_eq
    (by kernel_rfl) (fun s => by kernel_rfl) Cq.K61.run (by kernel_rfl) (by kernel_rfl) (by kernel_rfl) (by rfl) (by first | assumption | decide +kernel) (by decide +kernel) ⟨rfl, rfl, rfl, rfl, rfl, by decide +kernel⟩ ?hw ?hc
  case hw => w_witness2
  case hc =>
    refine L2.walk_ofG (l := PySem.Challenge.rw_countalike_k61_texts_of_questions) (n := 63) (k := 9) (CX := fun w => L2.CX (PySem.Challenge.rw_countalike_k61_texts_of_questions).prog w) rfl (by decide) (by kernel_rfl) ⟨rfl, by decide, by decide⟩ ?F (fun _ _ _ _ _ z => Cq.cx_none z)
    intro w mg fa h Y G hmg0
    obtain ⟨K, KX, c⟩ := Y
    have hmg : mg ("law" : PySem.Str) = some (.ref fa) := by
      have e : (HandSHeadRun.topDef (OpenLaw.row PySem.Challenge.rw_countalike_k61_texts_of_questions).prog 58).name = ("law" : PySem.Str) := by kernel_rfl
      rw [← e]
      exact hmg0
    have gt := Cq.K61.gt_of KX G c
    have e := hmg.symm.trans gt.g_law
    cases e
    exact ⟨K, Cq.spF K [.im] Cq.K61.f_law, KX, fun H a ns hl _ hS => Cq.sp_law hS (Cq.K61.law_ok ns hl) (fun P hP => gt.noT P hP H), fun base _ _ => Cq.K61.ok_law gt⟩
