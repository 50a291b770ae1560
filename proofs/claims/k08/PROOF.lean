import PyProof.Rows.All
import HandS.Base
import HandS.Call
import HandS.List
import HandS.Comp
import HandS.Exc
import HandS.ExcOwn
import HandS.Defaults
import HandS.HeadHook1
import HandS.Lambda
import HandS.Iter
import HandS.WordsExc
import HandS.CallSlots
import HandS.More
import HandS.Star
import HandS.TupAny
import HandS.IsInst
import HandS.Wide
import HandS.SortInts
import HandS.Text
import HandS.Deep
import HandS.Style
import HandS.Codes
import HandS.FStr
import HandS.RaiseMore
import KE.SortData
import HandS.SetFor
import HandS.TupSets
import HandS.Strs
import HandS.HeadEnd
import PyProof.ReprRoads
import HandS.ClsMeth
import HandS.Property
import HandS.HeadNt
import HandS.Head2
import HandS.Steps
import HandS.StrMore
import HandS.TryMany
import PyProof.ExcBaseAll.ValueError
import HandS.OwnEq
import HandS.Dict
import HandS.Flt
import HandS.SortKw
import KE.DataMinMax
import HandS.DictTup
import PyProof.InstEq
import HandS.ReplaceLit
import PyProof.Rows.StrStep
import HandS.Conv
import HandS.Zip
import KE.GoesZip
import KE.GoesMore
import HandS.TupMul
import HandS.GenList
import KE.KDictZip
import HandS.EndTab
import PyProof.RulesMatch
import PyProof.StrOps
import HandS.NoneIn
import PyProof.StrLawsRepr
import PySem.Challenge.RW_countalike_k08_whole_tables_put_together
set_option Elab.async false
set_option linter.all false
set_option maxRecDepth 100000
namespace Cq
open PySem PySem.Spec PyProof.Rows L2
abbrev Frag := PySem.W.Frag

/-! ### data, results -/
inductive D where
  | non | bl (b : Bool) | int (i : Int) | str (x : Str)
  | tup (xs : List D) | lst (xs : List D)
  | dik (kvs : List (Key × D)) | dit (kvs : List (List Key × D))
  | ins (c : Nat) (fs : List (Nat × D))
  | scr (ns : List Int) | glo (c : Nat)
  | ktp (ks : List Key)
  | lam (a : Addr) (F0 : Hp) (r : Option Nat) (d : D)
  deriving Inhabited
/-- a slot: unset; a frozen datum; a datum lent for reading; a cell of one's own; a cell lent for writing -/
inductive Sl where
  | un | im (d : D) | ro (d : D) | ow (d : D) | mb (d : D)
abbrev Gm := List Sl
inductive Res (α : Type) where
  | ok (a : α) (g : Gm) | ex (c : Nat) (g : Gm)
abbrev M (α : Type) := Gm → Option (Res α)
def M.ret {α : Type} (a : α) : M α := fun g => some (.ok a g)
def M.fail {α : Type} : M α := fun _ => none
def M.bind {α β : Type} (m : M α) (f : α → M β) : M β := fun g => match m g with
  | none => none
  | some (.ok a g) => f a g
  | some (.ex c g) => some (.ex c g)
def Sl.con : Sl → Option D
  | .un => none
  | .im d => some d
  | .ro d => some d
  | .ow d => some d
  | .mb d => some d
def Sl.cell : Sl → Option D
  | .ow d => some d
  | .mb d => some d
  | _ => none
def conAt (g : Gm) (i : Nat) : Option D := (g[i]?).bind Sl.con

/-! ### names of classes and fields by number -/
def cname : Nat → Str
  | 0 => "Table" | 1 => "Question" | 2 => "Book" | 3 => "Mirrored" | 4 => "Capped" | 5 => "CappedMirror" | 6 => "Trying"
  | 10 => "CountError" | 11 => "NoRows" | 12 => "NoKey" | 13 => "NoNumber" | 14 => "NoText" | 15 => "NoTable" | 16 => "NoAtoms" | 17 => "NoQuestion" | 18 => "TooMuch" | 19 => "TooOften" | 20 => "NotMirrored" | 21 => "NothingDone"
  | _ => "?"
def fname : Nat → Str
  | 0 => "kept" | 1 => "state" | 2 => "past" | 3 => "limit" | 4 => "book" | _ => "?"
def ca (K : Frag) (c : Nat) : Addr := He.ga K (cname c)

/-! ### what a value stands for -/
def Sub (F H : Hp) : Prop := ∀ a o, F a = some o → H a = some o
mutual
inductive Rep (K : Frag) (F : Hp) : V → D → Prop
  | non : Rep K F .non .non
  | bl (b : Bool) : Rep K F (.bl b) (.bl b)
  | int (i : Int) : Rep K F (.int i) (.int i)
  | str (x : Str) : Rep K F (.str x) (.str x)
  | tup {a : Addr} {vs : List V} {ds : List D} : SqT K F a vs → Reps K F vs ds → Rep K F (.ref a) (.tup ds)
  | lst {a : Addr} {vs : List V} {ds : List D} : F a = some (.lst vs) → Reps K F vs ds → Rep K F (.ref a) (.lst ds)
  | scr {a : Addr} {ns : List Int} : SqL K F a (ns.map V.int) → Rep K F (.ref a) (.scr ns)
  | glo (c : Nat) : Rep K F (.ref (ca K c)) (.glo c)
  | dik {a : Addr} {kv : List (Key × V)} {ds : List (Key × D)} : F a = some (.dK kv) → kv.map (·.1) = ds.map (·.1) → Reps K F (kv.map (·.2)) (ds.map (·.2)) → Rep K F (.ref a) (.dik ds)
  | dit {a : Addr} {kv : List (List Key × V)} {ds : List (List Key × D)} : F a = some (.dT kv) → kv.map (·.1) = ds.map (·.1) → Reps K F (kv.map (·.2)) (ds.map (·.2)) → Rep K F (.ref a) (.dit ds)
  | ins {a dx : Addr} {fv : List (Str × V)} {c : Nat} {fs : List (Nat × D)} : F a = some (.ins (ca K c) dx fv) → F dx = some (.own a) → fv.map (·.1) = fs.map (fun p => fname p.1) → Reps K F (fv.map (·.2)) (fs.map (·.2)) → Rep K F (.ref a) (.ins c fs)
  | ktp {a : Addr} {ks : List Key} : F a = some (.tup (ks.map kV)) → Rep K F (.ref a) (.ktp ks)
  | lam {a : Addr} {F0 : Hp} {r : Option Nat} {d : D} : Sub F0 F → Rep K F (.ref a) (.lam a F0 r d)
inductive Reps (K : Frag) (F : Hp) : List V → List D → Prop
  | nil : Reps K F [] []
  | cons {v : V} {d : D} {vs : List V} {ds : List D} : Rep K F v d → Reps K F vs ds → Reps K F (v :: vs) (d :: ds)
end
theorem Sub.trans {F G H : Hp} (h : Sub F G) (k : Sub G H) : Sub F H := fun a o e => k a o (h a o e)
theorem Sub.rd {F H : Hp} (h : Sub F H) {a : Addr} {u : HO} (r : Rd F a u) : Rd H a u := by
  rcases r with r | ⟨o, r⟩
  · exact .inl (h _ _ r)
  · exact .inr ⟨o, h _ _ r⟩
theorem Sub.seq {K : Frag} {F H : Hp} (h : Sub F H) {a : Addr} {xs : List V} (r : SqL K F a xs) : SqL K H a xs := by
  rcases r with r | r
  · exact .inl (h.rd r)
  · exact .inr r
theorem Sub.tup {K : Frag} {F H : Hp} (h : Sub F H) {a : Addr} {xs : List V} (r : SqT K F a xs) : SqT K H a xs := by
  rcases r with r | r
  · exact .inl (h.rd r)
  · exact .inr r
theorem Sub.refl (F : Hp) : Sub F F := fun _ _ e => e
mutual
theorem Rep.mono {K : Frag} {F F' : Hp} (s : Sub F F') : ∀ {v : V} {d : D}, Rep K F v d → Rep K F' v d
  | _, _, .non => .non
  | _, _, .bl b => .bl b
  | _, _, .int i => .int i
  | _, _, .str x => .str x
  | _, _, .tup h r => .tup (s.tup h) (Reps.mono s r)
  | _, _, .lst h r => .lst (s _ _ h) (Reps.mono s r)
  | _, _, .scr h => .scr (s.seq h)
  | _, _, .glo c => .glo c
  | _, _, .dik h k r => .dik (s _ _ h) k (Reps.mono s r)
  | _, _, .dit h k r => .dit (s _ _ h) k (Reps.mono s r)
  | _, _, .ins h h' k r => .ins (s _ _ h) (s _ _ h') k (Reps.mono s r)
  | _, _, .ktp h => .ktp (s _ _ h)
  | _, _, .lam h => .lam (Sub.trans h s)
theorem Reps.mono {K : Frag} {F F' : Hp} (s : Sub F F') : ∀ {vs : List V} {ds : List D}, Reps K F vs ds → Reps K F' vs ds
  | _, _, .nil => .nil
  | _, _, .cons r t => .cons (Rep.mono s r) (Reps.mono s t)
end
theorem Reps.length {K : Frag} {F : Hp} : ∀ {vs : List V} {ds : List D}, Reps K F vs ds → vs.length = ds.length
  | _, _, .nil => rfl
  | _, _, .cons _ t => congrArg (· + 1) t.length
theorem Reps.get {K : Frag} {F : Hp} : ∀ {vs : List V} {ds : List D} {i : Nat} {v : V} {d : D}, Reps K F vs ds → vs[i]? = some v → ds[i]? = some d → Rep K F v d
  | _, _, _, _, _, .nil, e, _ => by simp at e
  | _, _, 0, _, _, .cons r _, e, e' => by simp at e e'; subst e; subst e'; exact r
  | _, _, i + 1, _, _, .cons _ t, e, e' => Reps.get (i := i) t (by simpa using e) (by simpa using e')
theorem Reps.getV {K : Frag} {F : Hp} : ∀ {vs : List V} {ds : List D} {i : Nat} {d : D}, Reps K F vs ds → ds[i]? = some d → ∃ v, vs[i]? = some v ∧ Rep K F v d
  | _, _, _, _, .nil, e => by simp at e
  | _, _, 0, _, .cons r _, e => by simp at e; subst e; exact ⟨_, rfl, r⟩
  | _, _, i + 1, d, .cons _ t, e => by
    obtain ⟨v, h1, h2⟩ := Reps.getV (i := i) (d := d) t (by simpa using e)
    exact ⟨v, by simpa using h1, h2⟩
theorem Reps.getD {K : Frag} {F : Hp} : ∀ {vs : List V} {ds : List D} {i : Nat} {v : V}, Reps K F vs ds → vs[i]? = some v → ∃ d, ds[i]? = some d ∧ Rep K F v d
  | _, _, _, _, .nil, e => by simp at e
  | _, _, 0, _, .cons r _, e => by simp at e; subst e; exact ⟨_, rfl, r⟩
  | _, _, i + 1, v, .cons _ t, e => by
    obtain ⟨d, h1, h2⟩ := Reps.getD (i := i) (v := v) t (by simpa using e)
    exact ⟨d, by simpa using h1, h2⟩
theorem Reps.append {K : Frag} {F : Hp} : ∀ {vs ws : List V} {ds es : List D}, Reps K F vs ds → Reps K F ws es → Reps K F (vs ++ ws) (ds ++ es)
  | _, _, _, _, .nil, s => s
  | _, _, _, _, .cons r t, s => .cons r (Reps.append t s)
theorem Reps.take {K : Frag} {F : Hp} : ∀ {vs : List V} {ds : List D} (n : Nat), Reps K F vs ds → Reps K F (vs.take n) (ds.take n)
  | _, _, 0, _ => .nil
  | _, _, _ + 1, .nil => .nil
  | _, _, n + 1, .cons r t => .cons r (Reps.take n t)
theorem Reps.drop {K : Frag} {F : Hp} : ∀ {vs : List V} {ds : List D} (n : Nat), Reps K F vs ds → Reps K F (vs.drop n) (ds.drop n)
  | _, _, 0, r => r
  | _, _, _ + 1, .nil => .nil
  | _, _, n + 1, .cons _ t => Reps.drop n t
theorem Reps.set {K : Frag} {F : Hp} {x : V} {y : D} (r : Rep K F x y) : ∀ {vs : List V} {ds : List D} (i : Nat), Reps K F vs ds → Reps K F (vs.set i x) (ds.set i y)
  | _, _, _, .nil => .nil
  | _, _, 0, .cons _ t => .cons r t
  | _, _, i + 1, .cons q t => .cons q (Reps.set r i t)
/-! ### cells -/
/-- what stands at an address that may change: its own object holds frozen things alone -/
def Cell (K : Frag) (F H : Hp) (a : Addr) : D → Prop
  | .lst ds => ∃ vs, H a = some (.lst vs) ∧ Reps K F vs ds
  | .dik ds => ∃ kv : List (Key × V), H a = some (.dK kv) ∧ kv.map (·.1) = ds.map (·.1) ∧ Reps K F (kv.map (·.2)) (ds.map (·.2))
  | .dit ds => ∃ kv : List (List Key × V), H a = some (.dT kv) ∧ kv.map (·.1) = ds.map (·.1) ∧ Reps K F (kv.map (·.2)) (ds.map (·.2))
  | .ins c fs => ∃ dx fv, H a = some (.ins (ca K c) dx fv) ∧ H dx = some (.own a) ∧ fv.map (·.1) = fs.map (fun p => fname p.1) ∧ Reps K F (fv.map (·.2)) (fs.map (·.2))
  | _ => False
/-- the addresses of a cell -/
def Foot (H : Hp) (a x : Addr) : Prop := x = a ∨ ∃ C fv, H a = some (.ins C x fv)
theorem Cell.same {K : Frag} {F F' H H' : Hp} {a : Addr} {d : D} (h : Cell K F H a d) (s : Sub F F') (k : ∀ x o, Foot H a x → H x = some o → H' x = some o) : Cell K F' H' a d := by
  cases d with
  | lst ds => obtain ⟨vs, e, r⟩ := h; exact ⟨vs, k _ _ (.inl rfl) e, r.mono s⟩
  | dik ds => obtain ⟨vs, e, m, r⟩ := h; exact ⟨vs, k _ _ (.inl rfl) e, m, r.mono s⟩
  | dit ds => obtain ⟨vs, e, m, r⟩ := h; exact ⟨vs, k _ _ (.inl rfl) e, m, r.mono s⟩
  | ins c fs => obtain ⟨dx, fv, e, e', m, r⟩ := h; exact ⟨dx, fv, k _ _ (.inl rfl) e, k _ _ (.inr ⟨_, _, e⟩) e', m, r.mono s⟩
  | _ => exact h
theorem Cell.at {K : Frag} {F H : Hp} {a : Addr} {d : D} (h : Cell K F H a d) : ∃ o, H a = some o := by
  cases d with
  | lst ds => obtain ⟨vs, e, r⟩ := h; exact ⟨_, e⟩
  | dik ds => obtain ⟨vs, e, m, r⟩ := h; exact ⟨_, e⟩
  | dit ds => obtain ⟨vs, e, m, r⟩ := h; exact ⟨_, e⟩
  | ins c fs => obtain ⟨dx, fv, e, e', m, r⟩ := h; exact ⟨_, e⟩
  | _ => exact h.elim
theorem Cell.foot {K : Frag} {F H : Hp} {a : Addr} {d : D} (h : Cell K F H a d) {x : Addr} (f : Foot H a x) : ∃ o, H x = some o := by
  rcases f with rfl | ⟨C, fv, e⟩
  · exact h.at
  · cases d with
    | ins c fs => obtain ⟨dx, fv', e1, e', m, r⟩ := h; rw [e1] at e; cases e; exact ⟨_, e'⟩
    | lst ds => obtain ⟨vs, e1, r⟩ := h; rw [e1] at e; cases e
    | dik ds => obtain ⟨vs, e1, r⟩ := h; rw [e1] at e; cases e
    | dit ds => obtain ⟨vs, e1, r⟩ := h; rw [e1] at e; cases e
    | _ => exact h.elim
inductive TEx : HO → Prop
  | tup (xs : List V) : TEx (.tup xs)
  | ext (φ : Heap → Prop) : TEx (.ext φ)
def NT (o : HO) : Prop := ∀ _ : Unit, TEx o → False
theorem Cell.nt0 {K : Frag} {F H : Hp} {a : Addr} {d : D} (h : Cell K F H a d) {x : Addr} (f : Foot H a x) {o : HO} (e : H x = some o) : ∀ xs, o ≠ .tup xs := fun xs z => by
  subst z
  rcases f with rfl | ⟨C, fv, e2⟩
  · cases d with
    | lst ds => obtain ⟨vs, e1, r⟩ := h; rw [e1] at e; cases e
    | dik ds => obtain ⟨vs, e1, r⟩ := h; rw [e1] at e; cases e
    | dit ds => obtain ⟨vs, e1, r⟩ := h; rw [e1] at e; cases e
    | ins c fs => obtain ⟨dx, fv, e1, r⟩ := h; rw [e1] at e; cases e
    | _ => exact h.elim
  · cases d with
    | lst ds => obtain ⟨vs, e1, r⟩ := h; rw [e1] at e2; cases e2
    | dik ds => obtain ⟨vs, e1, r⟩ := h; rw [e1] at e2; cases e2
    | dit ds => obtain ⟨vs, e1, r⟩ := h; rw [e1] at e2; cases e2
    | ins c fs => obtain ⟨dx, fv, e1, e3, r⟩ := h; rw [e1] at e2; cases e2; rw [e3] at e; cases e
    | _ => exact h.elim
theorem Cell.dt {K : Frag} {F H : Hp} {a : Addr} {d : D} (h : Cell K F H a d) {x : Addr} (f : Foot H a x) {o : HO} (e : H x = some o) : (∀ ps, o ≠ .tbl ps) ∧ ∀ φ, o ≠ .ext φ := by
  rcases f with rfl | ⟨C, fv, e2⟩
  · cases d with
    | lst ds => obtain ⟨vs, e1, r⟩ := h; rw [e1] at e; cases e; exact ⟨fun _ z => (nomatch z), fun _ z => (nomatch z)⟩
    | dik ds => obtain ⟨vs, e1, r⟩ := h; rw [e1] at e; cases e; exact ⟨fun _ z => (nomatch z), fun _ z => (nomatch z)⟩
    | dit ds => obtain ⟨vs, e1, r⟩ := h; rw [e1] at e; cases e; exact ⟨fun _ z => (nomatch z), fun _ z => (nomatch z)⟩
    | ins c fs => obtain ⟨dx, fv, e1, r⟩ := h; rw [e1] at e; cases e; exact ⟨fun _ z => (nomatch z), fun _ z => (nomatch z)⟩
    | _ => exact h.elim
  · cases d with
    | lst ds => obtain ⟨vs, e1, r⟩ := h; rw [e1] at e2; cases e2
    | dik ds => obtain ⟨vs, e1, r⟩ := h; rw [e1] at e2; cases e2
    | dit ds => obtain ⟨vs, e1, r⟩ := h; rw [e1] at e2; cases e2
    | ins c fs => obtain ⟨dx, fv, e1, e3, r⟩ := h; rw [e1] at e2; cases e2; rw [e3] at e; cases e; exact ⟨fun _ z => (nomatch z), fun _ z => (nomatch z)⟩
    | _ => exact h.elim
theorem Cell.nt {K : Frag} {F H : Hp} {a : Addr} {d : D} (h : Cell K F H a d) {x : Addr} (f : Foot H a x) {o : HO} (e : H x = some o) : NT o := fun _ z => by
  cases z with
  | tup xs => exact h.nt0 f e xs rfl
  | ext φ => exact (h.dt f e).2 φ rfl
theorem Foot.same {H H' : Hp} {a x : Addr} {o : HO} (ha : H a = some o) (k : H' a = H a) (f : Foot H' a x) : Foot H a x := by
  rcases f with rfl | ⟨C, fv, e⟩
  · exact .inl rfl
  · exact .inr ⟨C, fv, by rw [← k]; exact e⟩
/-- what may be read now -/
def RoV (K : Frag) (F H : Hp) (v : V) (d : D) : Prop := Rep K F v d ∨ ∃ a, v = .ref a ∧ Cell K F H a d ∧ ∀ x, Foot H a x → x = a

def Own (g : Gm) (σ : L2.St) (H : Hp) (x : Addr) : Prop := ∃ (i : Nat) (d : D) (a : Addr), (g[i]?).bind Sl.cell = some d ∧ σ[i]? = some (some (V.ref a)) ∧ Foot H a x
def SlotOk (K : Frag) (F H : Hp) (so : Option (Option V)) : Sl → Prop
  | .un => True
  | .im d => ∃ v, so = some (some v) ∧ Rep K F v d
  | .ro d => ∃ v, so = some (some v) ∧ RoV K F H v d
  | .ow d => ∃ a, so = some (some (.ref a)) ∧ Cell K F H a d ∧ ∀ x, Foot H a x → F x = none
  | .mb d => ∃ a, so = some (some (.ref a)) ∧ Cell K F H a d ∧ ∀ x, Foot H a x → F x = none
def NB (o : HO) : Prop := ∀ ps, o ≠ .tbl ps
def Dt (o : HO) : Prop := NB o ∧ ∀ φ, o ≠ .ext φ
def lamQ (P : Addr) (o : Obj) : Option Str := match o.data with
  | .fields vs => (match vs[11]?, vs[1]? with
    | some (Value.ref p), some (Value.str q _) => if p = P then some (q ++ ".<locals>.<lambda>") else none
    | _, _ => none)
  | _ => none
def lamN (K : Frag) (P : Addr) : Str := ((K.map (·.2)).findSome? (lamQ P)).getD ""
def tT (K : Frag) : List Addr := match K.getLast? with
  | some (_, o) => (match o.cls, o.data with
    | .str q _, .fields vs => if q = ("tables" : Str) then vs.toList.filterMap (fun v => match v with | .ref p => some p | _ => none) else []
    | _, _ => [])
  | none => []
def tTs (K : Frag) : List (Addr × Str) := (tT K).map fun P => (P, lamN K P)
structure TB (K : Frag) (F H : Hp) : Prop where
  at_ : LamX.Tabs (tTs K) H
  nf : ∀ x ps, F x ≠ some (.tbl ps)
theorem TB.step {K : Frag} {F H F' H' : Hp} (t : TB K F H) (h2 : ∀ P ps, H P = some (.tbl ps) → H' P = some (.tbl ps)) (h3 : ∀ c φ, H c = some (.ext φ) → H' c = some (.ext φ)) (h4 : ∀ x ps, F' x = some (.tbl ps) → F x = some (.tbl ps)) : TB K F' H' := by
  refine ⟨fun p hp => ?_, fun x ps h => t.nf x ps (h4 x ps h)⟩
  obtain ⟨ps, a, b, c⟩ := t.at_ p hp
  refine ⟨ps, h2 _ _ a, b, fun pos cv hc => ?_⟩
  obtain ⟨k, e1, e2⟩ := c pos cv hc
  exact ⟨k, e1, h3 _ _ e2⟩
theorem TB.upd {K : Frag} {F H F' : Hp} {p : Addr} {o : HO} (t : TB K F H) (n : ∀ u, H p = some u → Dt u) (h3 : ∀ x ps, F' x = some (.tbl ps) → F x = some (.tbl ps)) : TB K F' (upd H p o) := by
  refine t.step (fun P ps h => ?_) (fun c φ h => ?_) h3
  · by_cases e : P = p
    · subst e; exact absurd rfl ((n _ h).1 ps)
    · rw [upd_ne e]; exact h
  · by_cases e : c = p
    · subst e; exact absurd rfl ((n _ h).2 φ)
    · rw [upd_ne e]; exact h
theorem fz_upd {F : Hp} {p : Addr} {o : HO} (d : NB o) : ∀ x ps, upd F p o x = some (.tbl ps) → F x = some (.tbl ps) := fun x ps h => by
  by_cases e : x = p
  · subst e; rw [upd_same] at h; cases h; exact absurd rfl (d ps)
  · rw [upd_ne e] at h; exact h
/-- the state: F what is frozen, g the slots' data -/
structure Sta (K : Frag) (F : Hp) (g : Gm) (σ : L2.St) (H : Hp) : Prop where
  sub : Sub F H
  len : g.length = σ.length
  slot : ∀ (i : Nat) (s : Sl), g[i]? = some s → SlotOk K F H σ[i]? s
  inj : ∀ (i j : Nat) (d e : D) (a b x : Addr), i ≠ j → (g[i]?).bind Sl.cell = some d → (g[j]?).bind Sl.cell = some e → σ[i]? = some (some (V.ref a)) → σ[j]? = some (some (V.ref b)) → Foot H a x → Foot H b x → False
  ro : ∀ (i : Nat) (d : D) (a : Addr), g[i]? = some (Sl.ro d) → σ[i]? = some (some (V.ref a)) → Rep K F (.ref a) d ∨ ¬ Own g σ H a
  tb : TB K F H
structure Stp (F H : Hp) (g : Gm) (σ : L2.St) (F' H' : Hp) (g' : Gm) (σ' : L2.St) : Prop where
  fg : Sub F F'
  st : ∀ (x : Addr), H x ≠ none → H' x ≠ none
  fr : ∀ (x : Addr) (o : HO), H x = some o → NB o → (NT o → F x = none) → ¬ Own g σ H x → H' x = some o ∧ (NT o → F' x = none)
  own : ∀ (x : Addr), Own g' σ' H' x → Own g σ H x ∨ H x = none
  kro : ∀ (i : Nat) (d : D), g'[i]? = some (Sl.ro d) → g[i]? = some (Sl.ro d) ∧ σ'[i]? = σ[i]?
  kmb : ∀ (i : Nat) (d : D), g'[i]? = some (Sl.mb d) → (∃ e, g[i]? = some (Sl.mb e)) ∧ σ'[i]? = σ[i]?
  ki : ∀ (b C dx : Addr) (fv : List (Str × V)), H b = some (.ins C dx fv) → ∃ fv', H' b = some (.ins C dx fv')
theorem Stp.fr' {F H F' H' : Hp} {g g' : Gm} {σ σ' : L2.St} (P : Stp F H g σ F' H' g' σ') {x : Addr} {o : HO} (h : H x = some o) (nb : NB o) (nt : NT o) (n : F x = none) (no : ¬ Own g σ H x) : H' x = some o ∧ F' x = none := let ⟨a, b⟩ := P.fr x o h nb (fun _ => n) no; ⟨a, b nt⟩
theorem Stp.refl {F H : Hp} {g : Gm} {σ : L2.St} : Stp F H g σ F H g σ := ⟨Sub.refl _, fun _ h => h, fun _ _ a _ b _ => ⟨a, b⟩, fun _ h => .inl h, fun _ _ h => ⟨h, rfl⟩, fun _ d h => ⟨⟨d, h⟩, rfl⟩, fun _ _ _ _ h => ⟨_, h⟩⟩
theorem Stp.trans {F H F1 H1 F2 H2 : Hp} {g g1 g2 : Gm} {σ σ1 σ2 : L2.St} (a : Stp F H g σ F1 H1 g1 σ1) (b : Stp F1 H1 g1 σ1 F2 H2 g2 σ2) : Stp F H g σ F2 H2 g2 σ2 := by
  refine ⟨a.fg.trans b.fg, fun x h => b.st x (a.st x h), fun x o h1 nb h2 h3 => ?_, fun x h => ?_, fun i d h => ?_, fun i d h => ?_, fun c C dx fv h => let ⟨_, h1⟩ := a.ki c C dx fv h; b.ki c C dx _ h1⟩
  · obtain ⟨e1, e2⟩ := a.fr x o h1 nb h2 h3
    refine b.fr x o e1 nb e2 fun q => ?_
    rcases a.own x q with q | q
    · exact h3 q
    · rw [h1] at q; cases q
  · rcases b.own x h with q | q
    · exact a.own x q
    · exact .inr (Classical.byContradiction fun h0 => a.st x h0 q)
  · obtain ⟨h1, h2⟩ := b.kro i d h
    obtain ⟨h3, h4⟩ := a.kro i d h1
    exact ⟨h3, h2.trans h4⟩
  · obtain ⟨⟨e, h1⟩, h2⟩ := b.kmb i d h
    obtain ⟨h3, h4⟩ := a.kmb i e h1
    exact ⟨h3, h2.trans h4⟩
/-- pure making: nothing that stood changes -/
structure Al (F H F' H' : Hp) : Prop where
  fg : Sub F F'
  hg : Sub H H'
  sub : Sub F' H'
  new : ∀ (x : Addr) (o : HO), H x = some o → NT o → F x = none → F' x = none
  tb : ∀ (K : Frag), TB K F H → TB K F' H'
theorem Al.refl {F H : Hp} (s : Sub F H) : Al F H F H := ⟨Sub.refl _, Sub.refl _, s, fun _ _ _ _ h => h, fun _ t => t⟩
theorem Al.trans {F H F1 H1 F2 H2 : Hp} (a : Al F H F1 H1) (b : Al F1 H1 F2 H2) : Al F H F2 H2 := ⟨a.fg.trans b.fg, a.hg.trans b.hg, b.sub, fun x o h1 nt h2 => b.new x o (a.hg x o h1) nt (a.new x o h1 nt h2), fun K t => b.tb K (a.tb K t)⟩
/-- a new frozen object -/
theorem Al.mk1 {F H : Hp} {p : Addr} {o : HO} (s : Sub F H) (n : H p = none) (d : NB o := by exact fun _ z => (nomatch z)) : Al F H (upd F p o) (upd H p o) := by
  have nf : F p = none := by
    cases e : F p with
    | none => rfl
    | some u => rw [s _ _ e] at n; cases n
  refine ⟨fun a u e => ?_, fun a u e => ?_, fun a u e => ?_, fun x o h1 nt h2 => ?_, fun K t => t.upd (fun u e => by rw [n] at e; cases e) (fz_upd d)⟩
  · rw [upd_ne (ne_of_none e nf)]; exact e
  · rw [upd_ne (ne_of_none e n)]; exact e
  · by_cases h : a = p
    · subst h; rw [upd_same] at e ⊢; exact e
    · rw [upd_ne h] at e ⊢; exact s _ _ e
  · have : x ≠ p := fun z => by subst z; rw [n] at h1; cases h1
    rw [upd_ne this]; exact h2
theorem Foot.al {H H' : Hp} (s : Sub H H') {a x : Addr} {o : HO} (ha : H a = some o) (f : Foot H' a x) : Foot H a x := f.same ha (by rw [ha, s a o ha])
theorem Foot.mono {H H' : Hp} (s : Sub H H') {a x : Addr} (f : Foot H a x) : Foot H' a x := by
  rcases f with f | ⟨C, fv, e⟩
  · exact .inl f
  · exact .inr ⟨C, fv, s _ _ e⟩
theorem SlotOk.cell {K : Frag} {F H : Hp} {so : Option (Option V)} {s : Sl} {d : D} (h : SlotOk K F H so s) (c : s.cell = some d) : ∃ a, so = some (some (V.ref a)) ∧ Cell K F H a d ∧ ∀ x, Foot H a x → F x = none := by
  cases s with
  | ow e => cases c; exact h
  | mb e => cases c; exact h
  | _ => cases c
theorem Sta.cell {K : Frag} {F H : Hp} {g : Gm} {σ : L2.St} (S : Sta K F g σ H) {i : Nat} {d : D} (c : (g[i]?).bind Sl.cell = some d) : ∃ a, σ[i]? = some (some (V.ref a)) ∧ Cell K F H a d ∧ ∀ x, Foot H a x → F x = none := by
  cases e : g[i]? with
  | none => rw [e] at c; cases c
  | some s => rw [e] at c; exact (S.slot i s e).cell c
theorem Sta.own_at {K : Frag} {F H : Hp} {g : Gm} {σ : L2.St} (S : Sta K F g σ H) {x : Addr} (o : Own g σ H x) : ∃ u, H x = some u := by
  obtain ⟨i, d, a, c, e, f⟩ := o
  obtain ⟨a', e', k, _⟩ := S.cell c
  rw [e] at e'; cases e'
  exact k.foot f
theorem Sta.own_al {K : Frag} {F H H' : Hp} {g : Gm} {σ : L2.St} (S : Sta K F g σ H) (s : Sub H H') {x : Addr} (o : Own g σ H' x) : Own g σ H x := by
  obtain ⟨i, d, a, c, e, f⟩ := o
  obtain ⟨a', e', k, _⟩ := S.cell c
  rw [e] at e'; cases e'
  obtain ⟨u, hu⟩ := k.at
  exact ⟨i, d, a, c, e, f.al s hu⟩
theorem RoV.al {K : Frag} {F F' H H' : Hp} {v : V} {d : D} (s : Sub F F') (t : Sub H H') (h : RoV K F H v d) : RoV K F' H' v d := by
  rcases h with h | ⟨a, e, c, n⟩
  · exact .inl (h.mono s)
  · obtain ⟨o, ho⟩ := c.at
    exact .inr ⟨a, e, c.same s fun x o _ q => t _ _ q, fun x f => n x (f.al t ho)⟩
theorem Sta.al {K : Frag} {F F' H H' : Hp} {g : Gm} {σ : L2.St} (S : Sta K F g σ H) (A : Al F H F' H') : Sta K F' g σ H' ∧ Stp F H g σ F' H' g σ := by
  refine ⟨⟨A.sub, S.len, fun i s e => ?_, fun i j d e a b x ij c1 c2 e1 e2 f1 f2 => ?_, fun i d a e1 e2 => ?_, A.tb K S.tb⟩, A.fg, fun x h => ?_, fun x o h1 _ h2 h3 => ⟨A.hg _ _ h1, fun nt => A.new x o h1 nt (h2 nt)⟩, fun x o => .inl (S.own_al A.hg o), fun i d h => ⟨h, rfl⟩, fun i d h => ⟨⟨d, h⟩, rfl⟩, fun b C dx fv h => ⟨fv, A.hg _ _ h⟩⟩
  · have q := S.slot i s e
    have cell : ∀ {d : D}, (∃ a, σ[i]? = some (some (V.ref a)) ∧ Cell K F H a d ∧ ∀ x, Foot H a x → F x = none) → ∃ a, σ[i]? = some (some (V.ref a)) ∧ Cell K F' H' a d ∧ ∀ x, Foot H' a x → F' x = none := fun ⟨a, e1, c, n⟩ => by
      obtain ⟨u, hu⟩ := c.at
      refine ⟨a, e1, c.same A.fg fun x o _ h => A.hg _ _ h, fun x f => ?_⟩
      have f0 := f.al A.hg hu
      obtain ⟨u', hu'⟩ := c.foot f0
      exact A.new x u' hu' (c.nt f0 hu') (n x f0)
    cases s with
    | un => trivial
    | im d => obtain ⟨v, e1, r⟩ := q; exact ⟨v, e1, r.mono A.fg⟩
    | ro d => obtain ⟨v, e1, r⟩ := q; exact ⟨v, e1, r.al A.fg A.hg⟩
    | ow d => exact cell q
    | mb d => exact cell q
  · obtain ⟨a', e1', k1, _⟩ := S.cell c1
    rw [e1] at e1'; cases e1'
    obtain ⟨b', e2', k2, _⟩ := S.cell c2
    rw [e2] at e2'; cases e2'
    obtain ⟨u, hu⟩ := k1.at
    obtain ⟨u', hu'⟩ := k2.at
    exact S.inj i j d e a b x ij c1 c2 e1 e2 (f1.al A.hg hu) (f2.al A.hg hu')
  · rcases S.ro i d a e1 e2 with r | r
    · exact .inl (r.mono A.fg)
    · exact .inr fun o => r (S.own_al A.hg o)
  · obtain ⟨o, e⟩ := Option.ne_none_iff_exists'.mp h
    rw [A.hg _ _ e]; exact fun z => nomatch z

/-! ### readings -/
def exv (K : Frag) (c : Nat) : Value := .ref (ca K c)
abbrev Rl (α β : Type) : Type := L2.St → Hp → Hp → Hp → Gm → α → β → Prop
def Pst {α β : Type} (K : Frag) (W : WX) (σ : L2.St) (rel : Rl α β) (F0 H0 : Hp) (g0 : Gm) (Q : β → Hp → Prop) : Option (Res α) → Prop
  | none => False
  | some (.ok d g') => ∀ v F' H', Sta K F' g' σ H' → Stp F0 H0 g0 σ F' H' g' σ → rel σ H0 F' H' g' d v → Q v H'
  | some (.ex c g') => ∀ F' H', Sta K F' g' σ H' → Stp F0 H0 g0 σ F' H' g' σ → W (exv K c) none σ H'
def tG {α β : Type} (K : Frag) (W : WX) (rel : Rl α β) (m : M α) : L2.St → Hp → (β → Hp → Prop) → Prop := fun σ H Q => ∃ F g, Sta K F g σ H ∧ Pst K W σ rel F H g Q (m g)
theorem Pst_bind {α β γ δ : Type} {K : Frag} {W : WX} {σ : L2.St} {rel : Rl α β} {rel2 : Rl γ δ} {F0 H0 F H : Hp} {g0 g : Gm} {Q : δ → Hp → Prop} {R : β → Hp → Prop} {m : M α} {f : α → M γ} (P0 : Stp F0 H0 g0 σ F H g σ)
    (h : Pst K W σ rel2 F0 H0 g0 Q ((M.bind m f) g))
    (k : ∀ d v F1 H1 g1, Sta K F1 g1 σ H1 → Stp F H g σ F1 H1 g1 σ → Stp F0 H0 g0 σ F1 H1 g1 σ → rel σ H F1 H1 g1 d v → Pst K W σ rel2 F0 H0 g0 Q (f d g1) → R v H1) : Pst K W σ rel F H g R (m g) := by
  unfold M.bind at h
  cases e : m g with
  | none => rw [e] at h; exact h
  | some r =>
    rw [e] at h
    cases r with
    | ok d g1 => exact fun v F1 H1 S1 P1 r1 => k d v F1 H1 g1 S1 P1 (P0.trans P1) r1 h
    | ex c g1 => exact fun F1 H1 S1 P1 => h F1 H1 S1 (P0.trans P1)
theorem PE_imp {X : Cx} {e : Expr} {t t' : TE} (h : PE X e t) (k : ∀ σ H Q, t' σ H Q → t σ H Q) : PE X e t' := ⟨fun pins s σ H Q I q => h.run pins s σ H Q I (k σ H Q q)⟩
theorem PT_imp {X : Cx} {e : Expr} {t t' : TT} (h : PT X e t) (k : ∀ σ H Q, t' σ H Q → t σ H Q) : PT X e t' := ⟨fun pins s σ H Q I q => h.run pins s σ H Q I (k σ H Q q)⟩
theorem PA_imp {X : Cx} {e : List Expr} {t t' : TA} (h : PA X e t) (k : ∀ σ H Q, t' σ H Q → t σ H Q) : PA X e t' := ⟨fun pos pins s σ H Q I q => h.run pos pins s σ H Q I (k σ H Q q)⟩
theorem PS_imp {X : Cx} {e : Stmt} {t t' : TS} (h : PS X e t) (k : ∀ D σ H, t' D σ H → t D σ H) : PS X e t' := ⟨fun pins s σ H D I q => h.run pins s σ H D I (k D σ H q)⟩
theorem PSs_imp {X : Cx} {e : List Stmt} {t t' : TS} (h : PSs X e t) (k : ∀ D σ H, t' D σ H → t D σ H) : PSs X e t' := ⟨fun pins s σ H D I q => h.run pins s σ H D I (k D σ H q)⟩

/-! ### handles: a name stays a name until the operation reads it -/
inductive Hd where
  | nm (i : Nat) | va (d : D)
def Hd.get (g : Gm) : Hd → Option D
  | .nm i => conAt g i
  | .va d => some d
def HdR (K : Frag) (F : Hp) (σ : L2.St) : Hd → V → Prop
  | .nm i, v => σ[i]? = some (some v)
  | .va d, v => Rep K F v d
inductive HdsR (K : Frag) (F : Hp) (σ : L2.St) : List Hd → List V → Prop
  | nil : HdsR K F σ [] []
  | cons {h : Hd} {v : V} {hs : List Hd} {vs : List V} : HdR K F σ h v → HdsR K F σ hs vs → HdsR K F σ (h :: hs) (v :: vs)
theorem HdR.mono {K : Frag} {F F' : Hp} {σ : L2.St} (s : Sub F F') : ∀ {h : Hd} {v : V}, HdR K F σ h v → HdR K F' σ h v
  | .nm _, _, r => r
  | .va _, _, r => Rep.mono s r
theorem HdsR.mono {K : Frag} {F F' : Hp} {σ : L2.St} (s : Sub F F') : ∀ {h : List Hd} {v : List V}, HdsR K F σ h v → HdsR K F' σ h v
  | _, _, .nil => .nil
  | _, _, .cons r t => .cons (r.mono s) (t.mono s)
theorem flat_lst {K : Frag} {F H : Hp} {a : Addr} {d : D} (c : Cell K F H a d) (n : ∀ c fs, d ≠ D.ins c fs) : ∀ x, Foot H a x → x = a := by
  intro x f
  rcases f with f | ⟨C, fv, e⟩
  · exact f
  · cases d with
    | lst ds => obtain ⟨vs, e1, r⟩ := c; rw [e1] at e; cases e
    | dik ds => obtain ⟨vs, e1, m, r⟩ := c; rw [e1] at e; cases e
    | dit ds => obtain ⟨vs, e1, m, r⟩ := c; rw [e1] at e; cases e
    | ins cc fs => exact absurd rfl (n cc fs)
    | _ => exact c.elim
def D.flat : D → Bool
  | .ins _ _ => false
  | _ => true
/-- what a handle reads: instances that are cells are not read so -/
def Hd.rd (g : Gm) (h : Hd) : Option D := match h with
  | .va d => some d
  | .nm i => match g[i]? with
    | some (.im d) => some d
    | some (.ro d) => some d
    | some (.ow d) => if d.flat then some d else none
    | some (.mb d) => if d.flat then some d else none
    | _ => none
theorem HdR.rov {K : Frag} {F H : Hp} {g : Gm} {σ : L2.St} {h : Hd} {v : V} {d : D} (S : Sta K F g σ H) (r : HdR K F σ h v) (e : h.rd g = some d) : RoV K F H v d := by
  cases h with
  | va d' => cases e; exact .inl r
  | nm i =>
    have r : σ[i]? = some (some v) := r
    cases q : g[i]? with
    | none => simp only [Hd.rd, q] at e; cases e
    | some s =>
      have k := S.slot i s q
      simp only [Hd.rd, q] at e
      have cell : (∃ a, σ[i]? = some (some (V.ref a)) ∧ Cell K F H a d ∧ ∀ x, Foot H a x → F x = none) → d.flat = true → RoV K F H v d := fun ⟨a, e1, c, _⟩ fl => by
        rw [r] at e1; cases e1
        exact .inr ⟨a, rfl, c, flat_lst c fun c' fs' z => by rw [z] at fl; cases fl⟩
      cases s with
      | un => cases e
      | im d' => cases e; obtain ⟨w, e1, z⟩ := k; rw [r] at e1; cases e1; exact .inl z
      | ro d' => cases e; obtain ⟨w, e1, z⟩ := k; rw [r] at e1; cases e1; exact z
      | ow d' =>
        have e : (if d'.flat = true then some d' else none) = some d := e
        by_cases f : d'.flat = true
        · rw [if_pos f] at e; cases e; exact cell k f
        · rw [if_neg f] at e; cases e
      | mb d' =>
        have e : (if d'.flat = true then some d' else none) = some d := e
        by_cases f : d'.flat = true
        · rw [if_pos f] at e; cases e; exact cell k f
        · rw [if_neg f] at e; cases e
inductive RoVs (K : Frag) (F H : Hp) : List V → List D → Prop
  | nil : RoVs K F H [] []
  | cons {v : V} {d : D} {vs : List V} {ds : List D} : RoV K F H v d → RoVs K F H vs ds → RoVs K F H (v :: vs) (d :: ds)
def rdAll (g : Gm) : List Hd → Option (List D)
  | [] => some []
  | h :: t => match h.rd g, rdAll g t with
    | some d, some ds => some (d :: ds)
    | _, _ => none
theorem HdsR.rov {K : Frag} {F H : Hp} {g : Gm} {σ : L2.St} (S : Sta K F g σ H) : ∀ {hs : List Hd} {vs : List V} {ds : List D}, HdsR K F σ hs vs → rdAll g hs = some ds → RoVs K F H vs ds
  | _, _, _, .nil, e => by cases e; exact .nil
  | h :: hs, _, ds, .cons r t, e => by
    unfold rdAll at e
    cases q : h.rd g with
    | none => rw [q] at e; cases e
    | some d => cases q2 : rdAll g hs with
      | none => rw [q, q2] at e; cases e
      | some es => rw [q, q2] at e; cases e; exact .cons (r.rov S q) (t.rov S q2)

/-! ### judgements -/
def relE (K : Frag) : Rl D V := fun _ _ F' _ _ d v => Rep K F' v d
def relO (K : Frag) : Rl Hd V := fun σ _ F' _ _ h v => HdR K F' σ h v
def relA (K : Frag) : Rl (List Hd) (List V) := fun σ _ F' _ _ h v => HdsR K F' σ h v
def relB : Rl Bool Bool := fun _ _ _ _ _ b c => b = c
/-- a new cell that nobody else knows -/
def relN (K : Frag) : Rl D V := fun σ H0 F' H' g' d v => ∃ a, v = .ref a ∧ Cell K F' H' a d ∧ ∀ x, Foot H' a x → F' x = none ∧ ¬ Own g' σ H' x ∧ H0 x = none
def SE (X : Cx) (W : WX) (e : Expr) (m : M D) : Prop := PE X e (tG X.K W (relE X.K) m)
def SO (X : Cx) (W : WX) (e : Expr) (m : M Hd) : Prop := PE X e (tG X.K W (relO X.K) m)
def SN (X : Cx) (W : WX) (e : Expr) (m : M D) : Prop := PE X e (tG X.K W (relN X.K) m)
def SB (X : Cx) (W : WX) (e : Expr) (m : M Bool) : Prop := PT X e (tG X.K W relB m)
def SA (X : Cx) (W : WX) (es : List Expr) (m : M (List Hd)) : Prop := PA X es (tG X.K W (relA X.K) m)

/-! ### names, constants -/
section
variable {X : Cx} {W : WX} {pos : Pos}
def mNm (i : Nat) : M Hd := fun g => match g[i]? with
  | none => none
  | some .un => none
  | some _ => some (.ok (.nm i) g)
theorem so_name {x : Str} (i : Nat) (hN : X.N[i]? = some x) (hv : Vis X.env.scope x) (hd : (x == ("__debug__" : Str)) = false := by decide) (hcd : (x == ("__classdict__" : Str)) = false := by decide) : SO X W (.Name x pos) (mNm i) := by
  refine PE_imp (pe_var hN hv hd hcd) fun σ H Q h => ?_
  obtain ⟨F, g, S, h⟩ := h
  unfold mNm at h
  cases q : g[i]? with
  | none => rw [q] at h; exact h.elim
  | some s =>
    have k := S.slot i s q
    rw [q] at h
    have go : ∀ v, σ[i]? = some (some v) → Pst X.K W σ (relO X.K) F H g Q (some (.ok (.nm i) g)) → tVar i σ H Q := fun v e h => ⟨v, e, h v F H S Stp.refl e⟩
    cases s with
    | un => exact h.elim
    | im d => obtain ⟨v, e, _⟩ := k; exact go v e h
    | ro d => obtain ⟨v, e, _⟩ := k; exact go v e h
    | ow d => obtain ⟨v, e, _⟩ := k; exact go _ e h
    | mb d => obtain ⟨v, e, _⟩ := k; exact go _ e h
theorem so_of_se {e : Expr} {m : M D} (h : SE X W e m) : SO X W e (m.bind fun d => M.ret (.va d)) := by
  refine PE_imp h fun σ H Q q => ?_
  obtain ⟨F, g, S, q⟩ := q
  exact ⟨F, g, S, Pst_bind Stp.refl q fun d v F1 H1 g1 S1 P1 _ r1 z => z v F1 H1 S1 P1 r1⟩
theorem se_ret {e : Expr} {v : V} {d : D} (h : PE X e (tC v)) (r : ∀ F, Rep X.K F v d) : SE X W e (M.ret d) := by
  refine PE_imp h fun σ H Q q => ?_
  obtain ⟨F, g, S, q⟩ := q
  exact q v F H S Stp.refl (r F)
theorem se_int {i : Int} {j : Nat} : SE X W (.Constant (.int i) j pos) (M.ret (.int i)) := se_ret pe_int fun _ => .int i
theorem se_bl {b : Bool} {j : Nat} : SE X W (.Constant (.bool b) j pos) (M.ret (.bl b)) := se_ret pe_bl fun _ => .bl b
theorem se_str {x : Str} {j : Nat} : SE X W (.Constant (.str x) j pos) (M.ret (.str x)) := se_ret pe_str fun _ => .str x
/-- a constant of the module -/
theorem se_glob {x : Str} {v : V} {d : D} {u : Value} (hg : Gl X x) (hm : X.mg x = some u) (r : RelV v u) (rd : ∀ F, Rep X.K F v d) (hd : (x == ("__debug__" : Str)) = false := by decide) : SE X W (.Name x pos) (M.ret d) := se_ret (pe_glob hg hm r hd) rd
end

/-! ### freezing -/
open Classical in
noncomputable def frz (F H : Hp) (a : Addr) : Hp := fun x => if Foot H a x then H x else F x
theorem frz_sub {F H : Hp} {a : Addr} (s : Sub F H) : Sub (frz F H a) H := fun x o e => by
  unfold frz at e
  by_cases f : Foot H a x
  · rw [if_pos f] at e; exact e
  · rw [if_neg f] at e; exact s _ _ e
theorem frz_grow {F H : Hp} {a : Addr} (s : Sub F H) : Sub F (frz F H a) := fun x o e => by
  unfold frz
  by_cases f : Foot H a x
  · rw [if_pos f]; exact s _ _ e
  · rw [if_neg f]; exact e
theorem frz_in {F H : Hp} {a x : Addr} (f : Foot H a x) : frz F H a x = H x := by unfold frz; rw [if_pos f]
theorem frz_out {F H : Hp} {a x : Addr} (f : ¬ Foot H a x) : frz F H a x = F x := by unfold frz; rw [if_neg f]
theorem Cell.frz_nt {K : Frag} {F H : Hp} {a : Addr} {d : D} (c : Cell K F H a d) (n : ∀ x ps, F x ≠ some (.tbl ps)) : ∀ x ps, frz F H a x ≠ some (.tbl ps) := fun x ps e => by
  by_cases f : Foot H a x
  · rw [frz_in f] at e; exact (c.dt f e).1 ps rfl
  · rw [frz_out f] at e; exact n x ps e
theorem Cell.frz {K : Frag} {F H : Hp} {a : Addr} {d : D} (s : Sub F H) (c : Cell K F H a d) : Rep K (frz F H a) (.ref a) d := by
  have g := frz_grow (a := a) s
  cases d with
  | lst ds => obtain ⟨vs, e, r⟩ := c; exact .lst (by rw [frz_in (.inl rfl)]; exact e) (r.mono g)
  | dik ds => obtain ⟨vs, e, m, r⟩ := c; exact .dik (by rw [frz_in (.inl rfl)]; exact e) m (r.mono g)
  | dit ds => obtain ⟨vs, e, m, r⟩ := c; exact .dit (by rw [frz_in (.inl rfl)]; exact e) m (r.mono g)
  | ins c fs => obtain ⟨dx, fv, e, e', m, r⟩ := c; exact .ins (by rw [frz_in (.inl rfl)]; exact e) (by rw [frz_in (.inr ⟨_, _, e⟩)]; exact e') m (r.mono g)
  | _ => exact c.elim
/-- F grows by some of what stands; the cells, the lent things stay apart -/
theorem Sta.grow {K : Frag} {F F' H : Hp} {g g' : Gm} {σ : L2.St} (S : Sta K F g σ H) (s : Sub F F') (s' : Sub F' H) (n : ∀ x, F x = none → (Own g' σ H x) → F' x = none)
    (len : g'.length = g.length) (sl : ∀ (i : Nat) (t : Sl), g'[i]? = some t → g[i]? = some t ∨ SlotOk K F' H σ[i]? t) (cl : ∀ (i : Nat) (t : Sl) (d : D), g'[i]? = some t → t.cell = some d → g[i]? = some t) (rl : ∀ (i : Nat) (d : D), g'[i]? = some (Sl.ro d) → g[i]? = some (Sl.ro d)) (nt : ∀ x ps, F' x ≠ some (.tbl ps)) : Sta K F' g' σ H := by
  have cl' : ∀ (i : Nat) (d : D), (g'[i]?).bind Sl.cell = some d → (g[i]?).bind Sl.cell = some d := fun i d c => by
    cases e : g'[i]? with
    | none => rw [e] at c; cases c
    | some t => rw [e] at c; rw [cl i t d e c]; exact c
  have ow : ∀ x, Own g' σ H x → Own g σ H x := fun x ⟨i, d, a, c, e, f⟩ => ⟨i, d, a, cl' i d c, e, f⟩
  refine ⟨s', len.trans S.len, fun i t e => ?_, fun i j d e a b x ij c1 c2 => S.inj i j d e a b x ij (cl' i d c1) (cl' j e c2), fun i d a e1 e2 => (S.ro i d a (rl i d e1) e2).imp (fun r => r.mono s) fun r o => r (ow a o), ⟨S.tb.at_, nt⟩⟩
  rcases sl i t e with h | h
  · have k := S.slot i t h
    have cell : ∀ {d : D}, t.cell = some d → (∃ a, σ[i]? = some (some (V.ref a)) ∧ Cell K F H a d ∧ ∀ x, Foot H a x → F x = none) → ∃ a, σ[i]? = some (some (V.ref a)) ∧ Cell K F' H a d ∧ ∀ x, Foot H a x → F' x = none := fun {d} ht ⟨a, e1, c, z⟩ =>
      ⟨a, e1, c.same s fun _ _ _ q => q, fun x f => n x (z x f) ⟨i, d, a, by rw [e]; exact ht, e1, f⟩⟩
    cases t with
    | un => trivial
    | im d => obtain ⟨v, e1, r⟩ := k; exact ⟨v, e1, r.mono s⟩
    | ro d => obtain ⟨v, e1, r⟩ := k; exact ⟨v, e1, r.al s (Sub.refl _)⟩
    | ow d => exact cell rfl k
    | mb d => exact cell rfl k
  · exact h
def mFrz (h : Hd) : M D := fun g => match h with
  | .va d => some (.ok d g)
  | .nm i => match g[i]? with
    | some (.im d) => some (.ok d g)
    | some (.ow d) => some (.ok d (g.set i (.im d)))
    | _ => none
theorem set_get {g : Gm} {i j : Nat} {s t : Sl} (h : (g.set i s)[j]? = some t) : (j = i ∧ t = s) ∨ (j ≠ i ∧ g[j]? = some t) := by
  by_cases e : i = j
  · subst e
    by_cases l : i < g.length
    · rw [List.getElem?_set_self l] at h; cases h; exact .inl ⟨rfl, rfl⟩
    · rw [List.getElem?_eq_none (by simpa using l)] at h; cases h
  · rw [List.getElem?_set_ne e] at h; exact .inr ⟨fun z => e z.symm, h⟩
/-- an own cell of a slot is frozen -/
theorem Sta.freeze {K : Frag} {F H : Hp} {g : Gm} {σ : L2.St} (S : Sta K F g σ H) {i : Nat} {d : D} (e : g[i]? = some (.ow d)) : ∃ (a : Addr) (F' : Hp), σ[i]? = some (some (V.ref a)) ∧ Sta K F' (g.set i (.im d)) σ H ∧ Stp F H g σ F' H (g.set i (.im d)) σ ∧ Rep K F' (.ref a) d := by
  obtain ⟨a, e1, c, n⟩ := S.slot i _ e
  have hc : (g[i]?).bind Sl.cell = some d := by rw [e]; rfl
  have r := c.frz S.sub
  have apart : ∀ (j : Nat) (f : D) (b x : Addr), (g[j]?).bind Sl.cell = some f → j ≠ i → σ[j]? = some (some (V.ref b)) → Foot H b x → ¬ Foot H a x := fun j f b x c1 ij e2 f1 f2 => S.inj j i f d b a x ij c1 hc e2 e1 f1 f2
  have ow : ∀ x, Own (g.set i (.im d)) σ H x → Own g σ H x ∧ ¬ Foot H a x := fun x ⟨j, f, b, c1, e2, f1⟩ => by
    cases q : (g.set i (.im d))[j]? with
    | none => rw [q] at c1; cases c1
    | some t =>
      rw [q] at c1
      rcases set_get q with ⟨rfl, rfl⟩ | ⟨hj, hq⟩
      · cases c1
      · have c2 : (g[j]?).bind Sl.cell = some f := by rw [hq]; exact c1
        exact ⟨⟨j, f, b, c2, e2, f1⟩, apart j f b x c2 hj e2 f1⟩
  refine ⟨a, frz F H a, e1, S.grow (frz_grow S.sub) (frz_sub S.sub) (fun x z o => ?_) (by simp) (fun j t q => ?_) (fun j t f q c1 => ?_) (fun j f q => ?_) (c.frz_nt S.tb.nf), ⟨frz_grow S.sub, fun _ h => h, fun x o h1 _ h2 h3 => ⟨h1, ?_⟩, fun x o => .inl (ow x o).1, fun j f q => ⟨?_, rfl⟩, fun j f q => ⟨⟨f, ?_⟩, rfl⟩, fun _ _ _ fv h => ⟨fv, h⟩⟩, r⟩
  · rw [frz_out (ow x o).2]; exact z
  · rcases set_get q with ⟨rfl, rfl⟩ | ⟨_, hq⟩
    · exact .inr ⟨_, e1, r⟩
    · exact .inl hq
  · rcases set_get q with ⟨_, z⟩ | ⟨_, hq⟩
    · rw [z] at c1; cases c1
    · exact hq
  · rcases set_get q with ⟨_, z⟩ | ⟨_, hq⟩
    · cases z
    · exact hq
  · rw [frz_out fun f => h3 ⟨i, d, a, hc, e1, f⟩]; exact h2
  · rcases set_get q with ⟨_, z⟩ | ⟨_, hq⟩
    · cases z
    · exact hq
  · rcases set_get q with ⟨_, z⟩ | ⟨_, hq⟩
    · cases z
    · exact hq
theorem mFrz_ok {X : Cx} {W : WX} {σ : L2.St} {F H F0 H0 : Hp} {g g0 : Gm} {h : Hd} {v : V} {Q : V → Hp → Prop} (S : Sta X.K F g σ H) (P : Stp F0 H0 g0 σ F H g σ) (r : HdR X.K F σ h v) (q : Pst X.K W σ (relE X.K) F0 H0 g0 Q (mFrz h g)) : Q v H := by
  cases h with
  | va d => exact q v F H S P r
  | nm i =>
    have r : σ[i]? = some (some v) := r
    unfold mFrz at q
    cases e : g[i]? with
    | none => simp only [e] at q; exact q.elim
    | some s =>
      simp only [e] at q
      cases s with
      | im d =>
        obtain ⟨w, e1, z⟩ := S.slot i _ e
        rw [r] at e1; cases e1
        exact q v F H S P z
      | ow d =>
        obtain ⟨a, F', e1, S', P', r'⟩ := S.freeze e
        rw [r] at e1; cases e1
        exact q _ F' H S' (P.trans P') r'
      | un => exact q.elim
      | ro d => exact q.elim
      | mb d => exact q.elim
theorem se_of_so {X : Cx} {W : WX} {e : Expr} {m : M Hd} (h : SO X W e m) : SE X W e (m.bind mFrz) := by
  refine PE_imp h fun σ H Q q => ?_
  obtain ⟨F, g, S, q⟩ := q
  exact ⟨F, g, S, Pst_bind Stp.refl q fun d v F1 H1 g1 S1 P1 P01 r1 z => mFrz_ok S1 P1 r1 z⟩
/-- a new cell is frozen -/
theorem se_of_sn {X : Cx} {W : WX} {e : Expr} {m : M D} (h : SN X W e m) : SE X W e m := by
  refine PE_imp h fun σ H Q q => ?_
  obtain ⟨F, g, S, q⟩ := q
  refine ⟨F, g, S, ?_⟩
  cases o : m g with
  | none => rw [o] at q; exact q
  | some r =>
    rw [o] at q
    cases r with
    | ex c g1 => exact q
    | ok d g1 =>
      intro v F1 H1 S1 P1 ⟨a, ev, c, n⟩
      subst ev
      have k0 : ∀ x, Foot H1 a x → H x = none := fun x f => (n x f).2.2
      refine q _ (frz F1 H1 a) H1 (S1.grow (frz_grow S1.sub) (frz_sub S1.sub) (fun x z o => ?_) rfl (fun _ _ z => .inl z) (fun _ _ _ z _ => z) (fun _ _ z => z) (c.frz_nt S1.tb.nf)) ⟨P1.fg.trans (frz_grow S1.sub), P1.st, fun x o h1 nb h2 h3 => ?_, P1.own, P1.kro, P1.kmb, P1.ki⟩ (c.frz S1.sub)
      · rw [frz_out fun f => (n x f).2.1 o]; exact z
      · obtain ⟨e1, e2⟩ := P1.fr x o h1 nb h2 h3
        refine ⟨e1, ?_⟩
        rw [frz_out fun f => by rw [k0 x f] at h1; cases h1]
        exact e2
end Cq

set_option Elab.async false
set_option linter.all false
set_option maxRecDepth 100000
namespace Cq
open PySem PySem.Spec PyProof.Rows L2
/-! ### operations by data -/
def rD1 (K : Frag) (f : D → Option D) : V → Hp → VK → Prop := fun x H Q => ∃ F d z, Sub F H ∧ RoV K F H x d ∧ f d = some z ∧ ∀ v F' H', Al F H F' H' → Rep K F' v z → Q v H'
def rD2 (K : Frag) (f : D → D → Option D) : R2 := fun x y H Q => ∃ F d e z, Sub F H ∧ RoV K F H x d ∧ RoV K F H y e ∧ f d e = some z ∧ ∀ v F' H', Al F H F' H' → Rep K F' v z → Q v H'
def rDs (K : Frag) (f : List D → Option D) : List V → Hp → VK → Prop := fun xs H Q => ∃ F ds z, Sub F H ∧ RoVs K F H xs ds ∧ f ds = some z ∧ ∀ v F' H', Al F H F' H' → Rep K F' v z → Q v H'
/-- with a new cell as the answer -/
def rNs (K : Frag) (f : List D → Option D) : List V → Hp → VK → Prop := fun xs H Q => ∃ F ds z, Sub F H ∧ RoVs K F H xs ds ∧ f ds = some z ∧ ∀ a F' H', Al F H F' H' → Cell K F' H' a z → (∀ x, Foot H' a x → H x = none ∧ F' x = none) → Q (.ref a) H'
/-- a method: the receiver, the arguments -/
def rDm (K : Frag) (f : D → List D → Option D) : V → List V → Hp → VK → Prop := fun x xs H Q => rDs K (fun ds => match ds with | d :: es => f d es | [] => none) (x :: xs) H Q

def mAns (o : Option D) : M D := fun g => match o with
  | some z => some (.ok z g)
  | none => none
def mF1 (f : D → Option D) (a : Hd) : M D := fun g => match a.rd g with
  | some d => mAns (f d) g
  | none => none
def mF2 (f : D → D → Option D) (a b : Hd) : M D := fun g => match a.rd g, b.rd g with
  | some d, some e => mAns (f d e) g
  | _, _ => none
def mFs (f : List D → Option D) (hs : List Hd) : M D := fun g => match rdAll g hs with
  | some ds => mAns (f ds) g
  | none => none
section
variable {X : Cx} {W : WX} {pos : Pos} {σ : L2.St} {F H F0 H0 : Hp} {g g0 : Gm} {Q : V → Hp → Prop}
theorem ans_ok {z : D} {o : Option D} (S : Sta X.K F g σ H) (P : Stp F0 H0 g0 σ F H g σ) (q : Pst X.K W σ (relE X.K) F0 H0 g0 Q (mAns o g)) : ∃ z, o = some z ∧ ∀ v F' H', Al F H F' H' → Rep X.K F' v z → Q v H' := by
  cases o with
  | none => exact q.elim
  | some z => exact ⟨z, rfl, fun v F' H' A r => q v F' H' (S.al A).1 (P.trans (S.al A).2) r⟩
theorem f1_ok {f : D → Option D} {h : Hd} {x : V} (S : Sta X.K F g σ H) (P : Stp F0 H0 g0 σ F H g σ) (r : HdR X.K F σ h x) (q : Pst X.K W σ (relE X.K) F0 H0 g0 Q (mF1 f h g)) : rD1 X.K f x H Q := by
  unfold mF1 at q
  cases e : h.rd g with
  | none => rw [e] at q; exact q.elim
  | some d =>
    rw [e] at q
    obtain ⟨z, hz, k⟩ := ans_ok (z := d) S P q
    exact ⟨F, d, z, S.sub, r.rov S e, hz, k⟩
theorem f2_ok {f : D → D → Option D} {h h' : Hd} {x y : V} (S : Sta X.K F g σ H) (P : Stp F0 H0 g0 σ F H g σ) (r : HdR X.K F σ h x) (r' : HdR X.K F σ h' y) (q : Pst X.K W σ (relE X.K) F0 H0 g0 Q (mF2 f h h' g)) : rD2 X.K f x y H Q := by
  unfold mF2 at q
  cases e : h.rd g with
  | none => rw [e] at q; exact q.elim
  | some d => cases e' : h'.rd g with
    | none => rw [e, e'] at q; exact q.elim
    | some d' =>
      rw [e, e'] at q
      obtain ⟨z, hz, k⟩ := ans_ok (z := d) S P q
      exact ⟨F, d, d', z, S.sub, r.rov S e, r'.rov S e', hz, k⟩
theorem fs_ok {f : List D → Option D} {hs : List Hd} {xs : List V} (S : Sta X.K F g σ H) (P : Stp F0 H0 g0 σ F H g σ) (r : HdsR X.K F σ hs xs) (q : Pst X.K W σ (relE X.K) F0 H0 g0 Q (mFs f hs g)) : rDs X.K f xs H Q := by
  unfold mFs at q
  cases e : rdAll g hs with
  | none => rw [e] at q; exact q.elim
  | some ds =>
    rw [e] at q
    obtain ⟨z, hz, k⟩ := ans_ok (z := .non) S P q
    exact ⟨F, ds, z, S.sub, r.rov S e, hz, k⟩
theorem fsN_ok {f : List D → Option D} {hs : List Hd} {xs : List V} (S : Sta X.K F g σ H) (P : Stp F0 H0 g0 σ F H g σ) (r : HdsR X.K F σ hs xs) (q : Pst X.K W σ (relN X.K) F0 H0 g0 Q (mFs f hs g)) : rNs X.K f xs H Q := by
  unfold mFs at q
  cases e : rdAll g hs with
  | none => rw [e] at q; exact q.elim
  | some ds =>
    simp only [e, mAns] at q
    cases hz : f ds with
    | none => simp only [hz] at q; exact q.elim
    | some z =>
      simp only [hz] at q
      refine ⟨F, ds, z, S.sub, r.rov S e, hz, fun a F' H' A c n => q _ F' H' (S.al A).1 (P.trans (S.al A).2) ⟨a, rfl, c, fun x f => ⟨(n x f).2, fun o => ?_, ?_⟩⟩⟩
      · obtain ⟨u, hu⟩ := S.own_at (S.own_al A.hg o)
        rw [(n x f).1] at hu; cases hu
      · exact Classical.byContradiction fun h0 => P.st x h0 (n x f).1
def mOp1 (f : D → Option D) (ma : M Hd) : M D := ma.bind (mF1 f)
def mOp2 (f : D → D → Option D) (ma mb : M Hd) : M D := ma.bind fun a => mb.bind fun b => mF2 f a b
def mCall (f : List D → Option D) (ma : M (List Hd)) : M D := ma.bind (mFs f)
variable {a b : Expr} {ma mb : M Hd}
theorem tOp_ok {f : D → D → Option D} {Q : VK} (q : tG X.K W (relE X.K) (mOp2 f ma mb) σ H Q) : tOp (rD2 X.K f) (tG X.K W (relO X.K) ma) (tG X.K W (relO X.K) mb) σ H Q := by
  obtain ⟨F, g, S, q⟩ := q
  refine ⟨F, g, S, Pst_bind Stp.refl q fun ha v F1 H1 g1 S1 P1 P01 r1 q1 => ⟨F1, g1, S1, Pst_bind P01 q1 fun hb w F2 H2 g2 S2 P2 P02 r2 q2 => ?_⟩⟩
  exact f2_ok S2 P02 (HdR.mono P2.fg r1) r2 q2
theorem se_op2 {op : Operator} {f : D → D → Option D} (ho : OpR X (binaryOp op) (rD2 X.K f)) (ha : SO X W a ma) (hb : SO X W b mb) : SE X W (.BinOp a op b pos) (mOp2 f ma mb) :=
  PE_imp (pe_op ho ha hb) fun _ _ _ q => tOp_ok q
theorem se_op1 {op : UnaryOp} {f : D → Option D} (ho : UnR X (unaryOp op) (rD1 X.K f)) (ha : SO X W a ma) : SE X W (.UnaryOp op a pos) (mOp1 f ma) :=
  PE_imp (pe_un ho ha) fun σ H Q q => by
    obtain ⟨F, g, S, q⟩ := q
    exact ⟨F, g, S, Pst_bind Stp.refl q fun ha v F1 H1 g1 S1 P1 P01 r1 q1 => f1_ok S1 P01 r1 q1⟩
theorem se_cmp {op : CmpOp} {f : D → D → Option D} (ho : OpR X (compareOp op) (rD2 X.K f)) (ha : SO X W a ma) (hb : SO X W b mb) (hm : behindInMarks op b = false) : SE X W (.Compare a [op] [b] pos) (mOp2 f ma mb) :=
  PE_imp (pe_cmpR ho ha hb hm) fun _ _ _ q => tOp_ok q
theorem se_ix {f : D → D → Option D} (ho : IxR X (rD2 X.K f)) (ha : SO X W a ma) (hb : SO X W b mb) (hs : PlainIx b) : SE X W (.Subscript a b pos) (mOp2 f ma mb) :=
  PE_imp (pe_ix ho ha hb hs) fun _ _ _ q => tOp_ok q
/-! ### tests -/
def dBool : D → M Bool
  | .bl b => M.ret b
  | _ => M.fail
theorem tTest_ok {m : M D} {Q : Bool → Hp → Prop} (q : tG X.K W relB (m.bind dBool) σ H Q) : tTest (tG X.K W (relE X.K) m) σ H Q := by
  obtain ⟨F, g, S, q⟩ := q
  refine ⟨F, g, S, Pst_bind Stp.refl q fun d v F1 H1 g1 S1 P1 P01 r1 q1 => ?_⟩
  have r1 : Rep X.K F1 v d := r1
  cases d with
  | bl c => cases r1; exact ⟨c, rfl, q1 c F1 H1 S1 P01 rfl⟩
  | _ => exact q1.elim
theorem sb_cmp {op : CmpOp} {f : D → D → Option D} (ho : OpR X (compareOp op) (rD2 X.K f)) (ha : SO X W a ma) (hb : SO X W b mb) (hm : behindInMarks op b = false) : SB X W (.Compare a [op] [b] pos) ((mOp2 f ma mb).bind dBool) :=
  PT_imp (pt_cmpR ho ha hb hm) fun _ _ _ q => by
    have q := tTest_ok q
    obtain ⟨F, g, S, q⟩ := q
    exact tOp_ok ⟨F, g, S, q⟩
theorem sb_val {e : Expr} {m : M D} (h : SE X W e m) (he : ∀ whole, isTrue e X.env whole = (do let v ← whole; standAt e.pos; holding [v] (truthy v)) := by intro _; rfl) : SB X W e (m.bind dBool) :=
  PT_imp (pt_val h he) fun _ _ _ q => tTest_ok q
/-- a chain a op b op' c -/
def mChain (f f' : D → D → Option D) (ma mb mc : M Hd) : M D := ma.bind fun a => mb.bind fun b => (mF2 f a b).bind fun k => match k with
  | .bl true => mc.bind fun c => mF2 f' b c
  | .bl false => M.ret (.bl false)
  | _ => M.fail
theorem tChain_ok {c : Expr} {mc : M Hd} {f f' : D → D → Option D} {Q : VK} (q : tG X.K W (relE X.K) (mChain f f' ma mb mc) σ H Q) : tChain (rD2 X.K f) (rD2 X.K f') (tG X.K W (relO X.K) ma) (tG X.K W (relO X.K) mb) (tG X.K W (relO X.K) mc) σ H Q := by
  obtain ⟨F, g, S, q⟩ := q
  refine ⟨F, g, S, Pst_bind Stp.refl q fun ha v F1 H1 g1 S1 P1 P01 r1 q1 => ⟨F1, g1, S1, Pst_bind P01 q1 fun hb w F2 H2 g2 S2 P2 P02 r2 q2 => ?_⟩⟩
  have q3 := Pst_bind (rel := relE X.K) (R := fun z H3 => ∃ k, z = V.bl k ∧ (if k = true then tG X.K W (relO X.K) mc σ H3 fun w' H4 => rD2 X.K f' w w' H4 Q else Q (.bl false) H3)) P02 q2 fun d z F3 H3 g3 S3 P3 P03 r3 q3 => by
    have r3 : Rep X.K F3 z d := r3
    cases d with
    | bl k =>
      cases r3
      refine ⟨k, rfl, ?_⟩
      cases k with
      | true =>
        rw [if_pos rfl]
        exact ⟨F3, g3, S3, Pst_bind P03 q3 fun hc w' F4 H4 g4 S4 P4 P04 r4 q4 => f2_ok S4 P04 (HdR.mono (P3.fg.trans P4.fg) r2) r4 q4⟩
      | false =>
        rw [if_neg (by decide)]
        exact q3 _ F3 H3 S3 P03 (.bl false)
    | _ => exact q3.elim
  have q3' : Pst X.K W σ (relE X.K) F2 H2 g2 (fun z H3 => ∃ k, z = V.bl k ∧ (if k = true then tG X.K W (relO X.K) mc σ H3 fun w' H4 => rD2 X.K f' w w' H4 Q else Q (.bl false) H3)) (mF2 f ha hb g2) := q3
  exact f2_ok S2 Stp.refl (HdR.mono P2.fg r1) r2 q3'
theorem se_chain {c : Expr} {mc : M Hd} {op op' : CmpOp} {f f' : D → D → Option D} (ho : OpR X (compareOp op) (rD2 X.K f)) (ho' : OpR X (compareOp op') (rD2 X.K f')) (ha : SO X W a ma) (hb : SO X W b mb) (hc : SO X W c mc) (hm : lastMarks [op, op'] [b, c] = false := by with_unfolding_all rfl) :
    SE X W (.Compare a [op, op'] [b, c] pos) (mChain f f' ma mb mc) := PE_imp (pe_chain ho ho' ha hb hc hm) fun _ _ _ q => tChain_ok (c := c) q
theorem sb_chain {c : Expr} {mc : M Hd} {op op' : CmpOp} {f f' : D → D → Option D} (ho : OpR X (compareOp op) (rD2 X.K f)) (ho' : OpR X (compareOp op') (rD2 X.K f')) (ha : SO X W a ma) (hb : SO X W b mb) (hc : SO X W c mc) (hm : lastMarks [op, op'] [b, c] = false := by with_unfolding_all rfl) :
    SB X W (.Compare a [op, op'] [b, c] pos) ((mChain f f' ma mb mc).bind dBool) := PT_imp (pt_chain ho ho' ha hb hc hm) fun _ _ _ q => by
      obtain ⟨F, g, S, q⟩ := tTest_ok q
      exact tChain_ok (c := c) ⟨F, g, S, q⟩

/-! ### and, or, not -/
def SW (X : Cx) (W : WX) (e : Expr) (m : M Bool) : Prop := PW X e (tG X.K W relB m)
def mAndB (ma mb : M Bool) : M Bool := ma.bind fun c => if c = true then mb else M.ret false
def mOrB (ma mb : M Bool) : M Bool := ma.bind fun c => if c = true then M.ret true else mb
variable {rest : List Expr} {na nb : M Bool} {pa pb : M D}
theorem sb_w {e : Expr} {m : M Bool} (h : SW X W e m) : SB X W e m := PW.pt h
theorem sw_and1 (h : SB X W a na) : SW X W (.BoolOp .And [a] pos) na := pw_and1 h
theorem sw_or1 (h : SB X W a na) : SW X W (.BoolOp .Or [a] pos) na := pw_or1 h
theorem PW_imp {X : Cx} {e : Expr} {t t' : TT} (h : PW X e t) (k : ∀ σ H Q, t' σ H Q → t σ H Q) : PW X e t' := ⟨fun wh pins s σ H Q I q => h.run wh pins s σ H Q I (k σ H Q q)⟩
theorem sw_and (ha : SB X W a na) (hb : SW X W (.BoolOp .And (b :: rest) pos) nb) : SW X W (.BoolOp .And (a :: b :: rest) pos) (mAndB na nb) := PW_imp (pw_and ha hb) fun σ H Q q => by
  obtain ⟨F, g, S, q⟩ := q
  refine ⟨F, g, S, Pst_bind Stp.refl q fun c v F1 H1 g1 S1 P1 P01 r1 q1 => ?_⟩
  cases (show c = v from r1)
  cases c with
  | true => rw [if_pos rfl]; exact ⟨F1, g1, S1, by
      have q1 : Pst X.K W σ relB F H g Q (nb g1) := q1
      cases e : nb g1 with
      | none => rw [e] at q1; exact q1
      | some r => rw [e] at q1; cases r with
        | ok d g2 => exact fun v F' H' S' P' r' => q1 v F' H' S' (P01.trans P') r'
        | ex c g2 => exact fun F' H' S' P' => q1 F' H' S' (P01.trans P')⟩
  | false => rw [if_neg (by decide)]; exact q1 _ F1 H1 S1 P01 rfl
theorem Pst_from {α β : Type} {K : Frag} {rel : Rl α β} {Q : β → Hp → Prop} {o : Option (Res α)} (P : Stp F0 H0 g0 σ F H g σ) (hr : ∀ F' H' g' a b, rel σ H F' H' g' a b → rel σ H0 F' H' g' a b) (q : Pst K W σ rel F0 H0 g0 Q o) : Pst K W σ rel F H g Q o := by
  cases o with
  | none => exact q
  | some r => cases r with
    | ok d g2 => exact fun v F' H' S' P' r' => q v F' H' S' (P.trans P') (hr _ _ _ _ _ r')
    | ex c g2 => exact fun F' H' S' P' => q F' H' S' (P.trans P')
theorem sw_or (ha : SB X W a na) (hb : SW X W (.BoolOp .Or (b :: rest) pos) nb) : SW X W (.BoolOp .Or (a :: b :: rest) pos) (mOrB na nb) := PW_imp (pw_or ha hb) fun σ H Q q => by
  obtain ⟨F, g, S, q⟩ := q
  refine ⟨F, g, S, Pst_bind Stp.refl q fun c v F1 H1 g1 S1 P1 P01 r1 q1 => ?_⟩
  cases (show c = v from r1)
  cases c with
  | true => rw [if_pos rfl]; exact q1 _ F1 H1 S1 P01 rfl
  | false => rw [if_neg (by decide)]; exact ⟨F1, g1, S1, Pst_from P01 (fun _ _ _ _ _ z => z) q1⟩
theorem sb_not (ha : SB X W a na) : SB X W (.UnaryOp .Not a pos) (na.bind fun c => M.ret (!c)) := PT_imp (pt_not ha) fun σ H Q q => by
  obtain ⟨F, g, S, q⟩ := q
  exact ⟨F, g, S, Pst_bind Stp.refl q fun c v F1 H1 g1 S1 P1 P01 r1 q1 => by
    cases (show c = v from r1)
    exact q1 _ F1 H1 S1 P01 rfl⟩
def mAndD (ma mb : M D) : M D := ma.bind fun c => match c with
  | .bl true => mb
  | .bl false => M.ret (.bl false)
  | _ => M.fail
def mOrD (ma mb : M D) : M D := ma.bind fun c => match c with
  | .bl true => M.ret (.bl true)
  | .bl false => mb
  | _ => M.fail
def mNotD (ma : M D) : M D := ma.bind fun c => match c with
  | .bl b => M.ret (.bl (!b))
  | _ => M.fail
theorem se_one {op : BoolOp} (h : SE X W a pa) : SE X W (.BoolOp op [a] pos) pa := pe_one h
theorem se_and (ha : SE X W a pa) (hb : SE X W (.BoolOp .And (b :: rest) pos) pb) : SE X W (.BoolOp .And (a :: b :: rest) pos) (mAndD pa pb) := PE_imp (pe_and ha hb) fun σ H Q q => by
  obtain ⟨F, g, S, q⟩ := q
  refine ⟨F, g, S, Pst_bind Stp.refl q fun d v F1 H1 g1 S1 P1 P01 r1 q1 => ?_⟩
  have r1 : Rep X.K F1 v d := r1
  cases d with
  | bl c =>
    cases r1
    refine ⟨c, rfl, ?_⟩
    cases c with
    | true => rw [if_pos rfl]; exact ⟨F1, g1, S1, Pst_from P01 (fun _ _ _ _ _ z => z) q1⟩
    | false => rw [if_neg (by decide)]; exact q1 _ F1 H1 S1 P01 (.bl false)
  | _ => exact q1.elim
theorem se_or (ha : SE X W a pa) (hb : SE X W (.BoolOp .Or (b :: rest) pos) pb) : SE X W (.BoolOp .Or (a :: b :: rest) pos) (mOrD pa pb) := PE_imp (pe_or ha hb) fun σ H Q q => by
  obtain ⟨F, g, S, q⟩ := q
  refine ⟨F, g, S, Pst_bind Stp.refl q fun d v F1 H1 g1 S1 P1 P01 r1 q1 => ?_⟩
  have r1 : Rep X.K F1 v d := r1
  cases d with
  | bl c =>
    cases r1
    refine ⟨c, rfl, ?_⟩
    cases c with
    | false => rw [if_neg (by decide)]; exact ⟨F1, g1, S1, Pst_from P01 (fun _ _ _ _ _ z => z) q1⟩
    | true => rw [if_pos rfl]; exact q1 _ F1 H1 S1 P01 (.bl true)
  | _ => exact q1.elim
theorem se_not (ha : SE X W a pa) : SE X W (.UnaryOp .Not a pos) (mNotD pa) := PE_imp (pe_not ha) fun σ H Q q => by
  obtain ⟨F, g, S, q⟩ := q
  refine ⟨F, g, S, Pst_bind Stp.refl q fun d v F1 H1 g1 S1 P1 P01 r1 q1 => ?_⟩
  have r1 : Rep X.K F1 v d := r1
  cases d with
  | bl c => cases r1; exact ⟨c, rfl, q1 _ F1 H1 S1 P01 (.bl _)⟩
  | _ => exact q1.elim
/-! ### argument lists, displays -/
variable {es : List Expr} {mr : M (List Hd)}
def mCons (ma : M Hd) (mr : M (List Hd)) : M (List Hd) := ma.bind fun h => mr.bind fun hs => M.ret (h :: hs)
theorem sa_nil : SA X W [] (M.ret []) := PA_imp pa_nil fun σ H Q q => by
  obtain ⟨F, g, S, q⟩ := q
  exact q [] F H S Stp.refl .nil
theorem sa_cons (ha : SO X W a ma) (hr : SA X W es mr) (hs : starEach (a :: es) X.env = (false, eval a X.env) :: starEach es X.env := by rfl) : SA X W (a :: es) (mCons ma mr) := PA_imp (pa_cons ha hr hs) fun σ H Q q => by
  obtain ⟨F, g, S, q⟩ := q
  exact ⟨F, g, S, Pst_bind Stp.refl q fun h v F1 H1 g1 S1 P1 P01 r1 q1 => ⟨F1, g1, S1, Pst_bind P01 q1 fun hs vs F2 H2 g2 S2 P2 P02 r2 q2 => q2 _ F2 H2 S2 P02 (.cons (HdR.mono P2.fg r1) r2)⟩⟩
/-- frozen items -/
def mFrzs : List Hd → M (List D)
  | [] => M.ret []
  | h :: hs => (mFrz h).bind fun d => (mFrzs hs).bind fun ds => M.ret (d :: ds)
def relL (K : Frag) : Rl (List D) (List V) := fun _ _ F' _ _ ds vs => Reps K F' vs ds
theorem mFrzs_ok {R : List V → Hp → Prop} {hs : List Hd} {vs : List V} {F F0 H0 : Hp} {g g0 : Gm} (S : Sta X.K F g σ H) (P : Stp F0 H0 g0 σ F H g σ) (r : HdsR X.K F σ hs vs) (q : Pst X.K W σ (relL X.K) F0 H0 g0 R (mFrzs hs g)) : R vs H := by
  induction hs generalizing vs F F0 H0 g g0 R with
  | nil => cases r; exact q [] F H S P .nil
  | cons h hs ih =>
    cases r with
    | cons r rs =>
      rename_i v vs
      have q2 : Pst X.K W σ (relE X.K) F H g (fun v' H' => v' = v → H' = H → R (v :: vs) H) (mFrz h g) := Pst_bind P q fun d v' F1 H1 g1 S1 P1 P01 r1 q1 => by
        intro ev eh
        subst ev
        subst eh
        exact ih (R := fun ws H' => R (v' :: ws) H') S1 Stp.refl (HdsR.mono P1.fg rs) (Pst_bind P01 q1 fun ds ws F2 H2 g2 S2 P2 P02 r2 q2 => q2 _ F2 H2 S2 P02 (.cons (Rep.mono P2.fg r1) r2))
      exact mFrz_ok S Stp.refl r q2 rfl rfl
def mTup (mr : M (List Hd)) : M D := mr.bind fun hs => (mFrzs hs).bind fun ds => if ds.length ≤ 1000000 then M.ret (.tup ds) else M.fail
def mLst (mr : M (List Hd)) : M D := mr.bind fun hs => (mFrzs hs).bind fun ds => if ds.length ≤ 1000000 then M.ret (.lst ds) else M.fail
theorem line_le {n : Nat} (h : n ≤ 1000000) : n ≤ sizeLine := Nat.le_trans h (by decide)
theorem se_tup {k : Nat} (h : SA X W es mr) : SE X W (.Tuple es k pos) (mTup mr) := PE_imp (pe_tup h) fun σ H Q q => by
  obtain ⟨F, g, S, q⟩ := q
  refine ⟨F, g, S, Pst_bind Stp.refl q fun hs vs F1 H1 g1 S1 P1 P01 r1 q1 => ?_⟩
  refine mFrzs_ok (W := W) (R := fun vs H1 => vs.length ≤ sizeLine ∧ ∀ p, H1 p = none → Q (.ref p) (upd H1 p (.tup vs))) S1 Stp.refl r1 (Pst_bind P01 q1 fun ds ws F2 H2 g2 S2 P2 P02 r2 q2 => ?_)
  by_cases l : ds.length ≤ 1000000
  · rw [if_pos l] at q2
    have r2 : Reps X.K F2 ws ds := r2
    refine ⟨by rw [r2.length]; exact line_le l, fun p np => ?_⟩
    have A := Al.mk1 (o := HO.tup ws) S2.sub np
    exact q2 _ _ _ (S2.al A).1 (P02.trans (S2.al A).2) (Rep.tup (.inl (.inl upd_same)) (r2.mono A.fg))
  · rw [if_neg l] at q2; exact q2.elim
/-- a new object that is a cell -/
theorem Al.mkN {p : Addr} {o : HO} (s : Sub F H) (n : H p = none) : Al F H F (upd H p o) := by
  refine ⟨Sub.refl _, fun a u e => ?_, fun a u e => ?_, fun x o h1 nt h2 => h2, fun K t => t.upd (fun u e => by rw [n] at e; cases e) fun _ _ z => z⟩
  · rw [upd_ne (ne_of_none e n)]; exact e
  · rw [upd_ne (ne_of_none (s _ _ e) n)]; exact s _ _ e
theorem sub_none (s : Sub F H) {p : Addr} (n : H p = none) : F p = none := by
  cases e : F p with
  | none => rfl
  | some u => rw [s _ _ e] at n; cases n
theorem foot_upd {p x : Addr} {o : HO} (h : ∀ C d fv, o ≠ .ins C d fv) (f : Foot (upd H p o) p x) : x = p := by
  rcases f with f | ⟨C, fv, e⟩
  · exact f
  · rw [upd_same] at e; cases e; exact absurd rfl (h _ _ _)
theorem newN {p : Addr} {o : HO} {d : D} (S : Sta X.K F g σ H) (P : Stp F0 H0 g0 σ F H g σ) (n : H p = none) (h : ∀ C d fv, o ≠ .ins C d fv) (c : Cell X.K F (upd H p o) p d) :
    Sta X.K F g σ (upd H p o) ∧ Stp F0 H0 g0 σ F (upd H p o) g σ ∧ relN X.K σ H0 F (upd H p o) g d (.ref p) := by
  have A := Al.mkN (o := o) S.sub n
  refine ⟨(S.al A).1, P.trans (S.al A).2, p, rfl, c, fun x f => ?_⟩
  cases foot_upd h f
  refine ⟨sub_none S.sub n, fun o => ?_, ?_⟩
  · obtain ⟨u, hu⟩ := S.own_at (S.own_al A.hg o)
    rw [n] at hu; cases hu
  · exact Classical.byContradiction fun h0 => P.st _ h0 n
theorem sn_lst (h : SA X W es mr) : SN X W (.List es pos) (mLst mr) := PE_imp (pe_lst h) fun σ H Q q => by
  obtain ⟨F, g, S, q⟩ := q
  refine ⟨F, g, S, Pst_bind Stp.refl q fun hs vs F1 H1 g1 S1 P1 P01 r1 q1 => ?_⟩
  refine mFrzs_ok (W := W) (R := fun vs H1 => vs.length ≤ sizeLine ∧ ∀ p, H1 p = none → Q (.ref p) (upd H1 p (.lst vs))) S1 Stp.refl r1 (Pst_bind P01 q1 fun ds ws F2 H2 g2 S2 P2 P02 r2 q2 => ?_)
  by_cases l : ds.length ≤ 1000000
  · rw [if_pos l] at q2
    have r2 : Reps X.K F2 ws ds := r2
    refine ⟨by rw [r2.length]; exact line_le l, fun p np => ?_⟩
    obtain ⟨S3, P3, r3⟩ := newN (o := HO.lst ws) (d := .lst ds) S2 P02 np (fun _ _ _ z => nomatch z) ⟨ws, upd_same, r2⟩
    exact q2 _ _ _ S3 P3 r3
  · rw [if_neg l] at q2; exact q2.elim
end
end Cq

set_option Elab.async false
set_option linter.all false
set_option maxRecDepth 100000
namespace Cq
open PySem PySem.Spec PyProof.Rows L2
/-! ### statements -/
inductive Fl where
  | nx | rt (d : D) | rn (d : D) | bk | ct
def PstS (K : Frag) (W : WX) (F0 H0 : Hp) (g0 : Gm) (σ0 : L2.St) (E : Ends) : Option (Res Fl) → Prop
  | none => False
  | some (.ex c g') => ∀ F' σ' H', Sta K F' g' σ' H' → Stp F0 H0 g0 σ0 F' H' g' σ' → W (exv K c) none σ' H'
  | some (.ok .nx g') => ∀ F' σ' H', Sta K F' g' σ' H' → Stp F0 H0 g0 σ0 F' H' g' σ' → E.nx σ' H'
  | some (.ok .bk g') => ∀ F' σ' H', Sta K F' g' σ' H' → Stp F0 H0 g0 σ0 F' H' g' σ' → E.bk σ' H'
  | some (.ok .ct g') => ∀ F' σ' H', Sta K F' g' σ' H' → Stp F0 H0 g0 σ0 F' H' g' σ' → E.ct σ' H'
  | some (.ok (.rt d) g') => ∀ v F' σ' H', Sta K F' g' σ' H' → Stp F0 H0 g0 σ0 F' H' g' σ' → Rep K F' v d → E.rt v H'
  | some (.ok (.rn d) g') => ∀ v F' σ' H', Sta K F' g' σ' H' → Stp F0 H0 g0 σ0 F' H' g' σ' → (∃ a, v = .ref a ∧ Cell K F' H' a d ∧ ∀ x, Foot H' a x → F' x = none ∧ (Own g0 σ0 H0 x ∨ H0 x = none) ∧ ∀ (i : Nat) (d' : D), g'[i]? = some (Sl.mb d') → ∀ b, σ'[i]? = some (some (V.ref b)) → ¬ Foot H' b x) → E.rt v H'
def tS (K : Frag) (W : WX) (m : M Fl) : TS := fun E σ H => ∃ F g, Sta K F g σ H ∧ PstS K W F H g σ E (m g)
def SS (X : Cx) (W : WX) (s : Stmt) (m : M Fl) : Prop := PS X s (tS X.K W m)
def SSs (X : Cx) (W : WX) (s : List Stmt) (m : M Fl) : Prop := PSs X s (tS X.K W m)
def mSeq (m n : M Fl) : M Fl := fun g => match m g with
  | some (.ok .nx g') => n g'
  | o => o
theorem PstS_from {K : Frag} {W : WX} {F0 H0 F H : Hp} {g0 g : Gm} {σ0 σ : L2.St} {E : Ends} {o : Option (Res Fl)} (P : Stp F0 H0 g0 σ0 F H g σ) (q : PstS K W F0 H0 g0 σ0 E o) : PstS K W F H g σ E o := by
  cases o with
  | none => exact q
  | some r => cases r with
    | ex c g => exact fun F' σ' H' S' P' => q F' σ' H' S' (P.trans P')
    | ok f g => cases f with
      | nx => exact fun F' σ' H' S' P' => q F' σ' H' S' (P.trans P')
      | bk => exact fun F' σ' H' S' P' => q F' σ' H' S' (P.trans P')
      | ct => exact fun F' σ' H' S' P' => q F' σ' H' S' (P.trans P')
      | rt d => exact fun v F' σ' H' S' P' r => q v F' σ' H' S' (P.trans P') r
      | rn d => exact fun v F' σ' H' S' P' ⟨a, e, c, k⟩ => q v F' σ' H' S' (P.trans P') ⟨a, e, c, fun x f => ⟨(k x f).1, by
          rcases (k x f).2.1 with o | o
          · exact P.own x o
          · exact .inr (Classical.byContradiction fun h0 => P.st x h0 o), (k x f).2.2⟩⟩
section
variable {X : Cx} {W : WX} {pos : Pos} {σ : L2.St} {F H F0 H0 : Hp} {g g0 : Gm} {s : Stmt} {ss : List Stmt} {m n : M Fl} {e : Expr}
theorem mSeq_ok {E : Ends} (q : PstS X.K W F0 H0 g0 σ E (mSeq m n g0)) : PstS X.K W F0 H0 g0 σ { E with nx := fun σ' H' => tS X.K W n E σ' H' } (m g0) := by
  unfold mSeq at q
  cases o : m g0 with
  | none => rw [o] at q; exact q
  | some r =>
    rw [o] at q
    cases r with
    | ex c g => exact q
    | ok f g => cases f with
      | nx => exact fun F' σ' H' S' P' => ⟨F', g, S', PstS_from P' q⟩
      | bk => exact q
      | ct => exact q
      | rt d => exact q
      | rn d => exact q
theorem ss_cons (h1 : SS X W s m) (h2 : SSs X W ss n) : SSs X W (s :: ss) (mSeq m n) := PSs_imp (pss_cons h1 h2) fun E σ H q => by
  obtain ⟨F, g, S, q⟩ := q
  exact ⟨F, g, S, mSeq_ok q⟩
theorem ss_one (h1 : SS X W s m) : SSs X W [s] m := pss_one h1
theorem ss_nil : SSs X W [] (M.ret .nx) := PSs_imp pss_nil fun E σ H q => by
  obtain ⟨F, g, S, q⟩ := q
  exact q F σ H S Stp.refl
/-- from an expression's answer to a statement's end -/
theorem Pst_stm {α β : Type} {rel : Rl α β} {E : Ends} {R : β → Hp → Prop} {p : M α} {f : α → M Fl} (P0 : Stp F0 H0 g0 σ F H g σ) (q : PstS X.K W F0 H0 g0 σ E (p.bind f g))
    (k : ∀ d v F1 H1 g1, Sta X.K F1 g1 σ H1 → Stp F H g σ F1 H1 g1 σ → Stp F0 H0 g0 σ F1 H1 g1 σ → rel σ H F1 H1 g1 d v → PstS X.K W F0 H0 g0 σ E (f d g1) → R v H1) : Pst X.K W σ rel F H g R (p g) := by
  unfold M.bind at q
  cases o : p g with
  | none => rw [o] at q; exact q
  | some r =>
    rw [o] at q
    cases r with
    | ok d g1 => exact fun v F1 H1 S1 P1 r1 => k d v F1 H1 g1 S1 P1 (P0.trans P1) r1 q
    | ex c g1 => exact fun F1 H1 S1 P1 => q F1 σ H1 S1 (P0.trans P1)
theorem ss_ret {p : M D} (h : SE X W e p) : SS X W (.Return (some e) pos) (p.bind fun d => M.ret (.rt d)) := PS_imp (ps_ret h) fun E σ H q => by
  obtain ⟨F, g, S, q⟩ := q
  exact ⟨F, g, S, Pst_stm Stp.refl q fun d v F1 H1 g1 S1 P1 P01 r1 q1 => q1 v F1 σ H1 S1 P1 r1⟩
theorem ss_retN {p : M D} (h : SN X W e p) : SS X W (.Return (some e) pos) (p.bind fun d => M.ret (.rn d)) := PS_imp (ps_ret h) fun E σ H q => by
  obtain ⟨F, g, S, q⟩ := q
  refine ⟨F, g, S, Pst_stm Stp.refl q fun d v F1 H1 g1 S1 P1 P01 r1 q1 => ?_⟩
  obtain ⟨a, ev, c, k⟩ := r1
  refine q1 v F1 σ H1 S1 P1 ⟨a, ev, c, fun x f => ⟨(k x f).1, .inr (k x f).2.2, fun i d' hi b hb fb => (k x f).2.1 ⟨i, d', b, ?_, hb, fb⟩⟩⟩
  rw [hi]; rfl
theorem ss_expr {p : M D} (h : SE X W e p) (hs : swapsWith e none pos.line X.env = pure false := by rfl) : SS X W (.Expr e pos) (p.bind fun _ => M.ret .nx) := PS_imp (ps_expr h hs) fun E σ H q => by
  obtain ⟨F, g, S, q⟩ := q
  exact ⟨F, g, S, Pst_stm Stp.refl q fun d v F1 H1 g1 S1 P1 P01 r1 q1 => q1 F1 σ H1 S1 P1⟩
theorem ss_if {c : Expr} {a b : List Stmt} {nb : M Bool} (hc : SB X W c nb) (ha : SSs X W a m) (hb : SSs X W b n) : SS X W (.If c a b pos) (nb.bind fun k => if k = true then m else n) := PS_imp (ps_if hc ha hb) fun E σ H q => by
  obtain ⟨F, g, S, q⟩ := q
  refine ⟨F, g, S, Pst_stm Stp.refl q fun k v F1 H1 g1 S1 P1 P01 r1 q1 => ?_⟩
  cases (show k = v from r1)
  cases k with
  | true => rw [if_pos rfl]; exact ⟨F1, g1, S1, PstS_from P1 q1⟩
  | false => rw [if_neg (by decide)]; exact ⟨F1, g1, S1, PstS_from P1 q1⟩

/-! ### stores to names -/
theorem sset_get {σ : L2.St} {i j : Nat} {s : Option V} {t : Option V} (h : (σ.set i s)[j]? = some t) : (j = i ∧ t = s) ∨ (j ≠ i ∧ σ[j]? = some t) := by
  by_cases e : i = j
  · subst e
    by_cases l : i < σ.length
    · rw [List.getElem?_set_self l] at h; cases h; exact .inl ⟨rfl, rfl⟩
    · rw [List.getElem?_eq_none (by simpa using l)] at h; cases h
  · rw [List.getElem?_set_ne e] at h; exact .inr ⟨fun z => e z.symm, h⟩
theorem gset_bind {g : Gm} {i j : Nat} {s : Sl} {d : D} (h : ((g.set i s)[j]?).bind Sl.cell = some d) : (j = i ∧ s.cell = some d) ∨ (j ≠ i ∧ (g[j]?).bind Sl.cell = some d) := by
  cases q : (g.set i s)[j]? with
  | none => rw [q] at h; cases h
  | some t =>
    rw [q] at h
    rcases set_get q with ⟨e1, e2⟩ | ⟨e1, e2⟩
    · subst e2; exact .inl ⟨e1, h⟩
    · exact .inr ⟨e1, by rw [e2]; exact h⟩
/-- a slot takes another content: a frozen one, none, or a cell that nobody else has -/
theorem Sta.store {K : Frag} (S : Sta K F g σ H) (i : Nat) (s : Sl) (v : Option V) (k : i < σ.length → SlotOk K F H (some v) s) (nro : ∀ d, s ≠ Sl.ro d)
    (fresh : ∀ d a, s.cell = some d → v = some (.ref a) → ∀ x, Foot H a x → ¬ Own g σ H x ∧ ∀ (j : Nat) (d : D) (b : Addr), g[j]? = some (Sl.ro d) → σ[j]? = some (some (V.ref b)) → b = x → Rep K F (.ref b) d) : Sta K F (g.set i s) (σ.set i v) H := by
  have ow : ∀ x, Own (g.set i s) (σ.set i v) H x → Own g σ H x ∨ ∃ d a, s.cell = some d ∧ v = some (.ref a) ∧ Foot H a x := fun x ⟨j, d, a, c, e, f⟩ => by
    rcases gset_bind c with ⟨e1, e2⟩ | ⟨e1, e2⟩
    · rcases sset_get e with ⟨_, e4⟩ | ⟨e3, _⟩
      · exact .inr ⟨d, a, e2, e4.symm, f⟩
      · exact absurd e1 e3
    · rcases sset_get e with ⟨e3, _⟩ | ⟨_, e4⟩
      · exact absurd e3 e1
      · exact .inl ⟨j, d, a, e2, e4, f⟩
  refine ⟨S.sub, by simpa using S.len, fun j t e => ?_, fun j l d e a b x jl c1 c2 e1 e2 f1 f2 => ?_, fun j d a e1 e2 => ?_, S.tb⟩
  · rcases set_get e with ⟨e1, e2⟩ | ⟨e1, e2⟩
    · subst e1; subst e2
      have l : j < σ.length := by
        have := List.getElem?_eq_some_iff.mp e
        obtain ⟨h, _⟩ := this
        rw [List.length_set, S.len] at h; exact h
      rw [List.getElem?_set_self l]; exact k l
    · rw [List.getElem?_set_ne fun z => e1 z.symm]; exact S.slot j t e2
  · rcases gset_bind c1 with ⟨h1, h2⟩ | ⟨h1, h2⟩
    · rcases gset_bind c2 with ⟨h3, h4⟩ | ⟨h3, h4⟩
      · exact jl (h1.trans h3.symm)
      · rcases sset_get e1 with ⟨_, h6⟩ | ⟨h5, _⟩
        · rcases sset_get e2 with ⟨h7, _⟩ | ⟨_, h8⟩
          · exact h3 h7
          · exact (fresh d a h2 h6.symm x f1).1 ⟨l, e, b, h4, h8, f2⟩
        · exact h5 h1
    · rcases gset_bind c2 with ⟨h3, h4⟩ | ⟨h3, h4⟩
      · rcases sset_get e2 with ⟨_, h6⟩ | ⟨h5, _⟩
        · rcases sset_get e1 with ⟨h7, _⟩ | ⟨_, h8⟩
          · exact h1 h7
          · exact (fresh e b h4 h6.symm x f2).1 ⟨j, d, a, h2, h8, f1⟩
        · exact h5 h3
      · rcases sset_get e1 with ⟨h7, _⟩ | ⟨_, h8⟩
        · exact h1 h7
        · rcases sset_get e2 with ⟨h5, _⟩ | ⟨_, h6⟩
          · exact h3 h5
          · exact S.inj j l d e a b x jl h2 h4 h8 h6 f1 f2
  · rcases set_get e1 with ⟨_, h2⟩ | ⟨h1, h2⟩
    · exact absurd h2.symm (nro d)
    · rcases sset_get e2 with ⟨h3, _⟩ | ⟨_, h4⟩
      · exact absurd h3 h1
      · rcases S.ro j d a h2 h4 with r | r
        · exact .inl r
        · refine (Classical.em (Rep K F (.ref a) d)).imp id fun nr o => ?_
          rcases ow a o with o | ⟨d', a', c, ev, f⟩
          · exact r o
          · exact nr ((fresh d' a' c ev a f).2 j d a h2 h4 rfl)
theorem store_kro {i j : Nat} {s t : Sl} {v : Option V} (h : (g.set i s)[j]? = some t) (ne : s ≠ t) : g[j]? = some t ∧ (σ.set i v)[j]? = σ[j]? := by
  rcases set_get h with ⟨_, h2⟩ | ⟨h1, h2⟩
  · exact absurd h2.symm ne
  · exact ⟨h2, List.getElem?_set_ne fun z => h1 z.symm⟩
theorem Sta.setIm {K : Frag} (S : Sta K F g σ H) (i : Nat) {v : V} {d : D} (r : Rep K F v d) : Sta K F (g.set i (.im d)) (σ.set i (some v)) H ∧ Stp F H g σ F H (g.set i (.im d)) (σ.set i (some v)) := by
  refine ⟨S.store i (.im d) (some v) (fun _ => ⟨v, rfl, r⟩) (fun _ z => nomatch z) (fun _ _ z => nomatch z), Sub.refl _, fun _ h => h, fun x o h1 _ h2 h3 => ⟨h1, h2⟩, fun x ⟨j, e, a, c, q, f⟩ => ?_, fun j e q => ?_, fun j e q => ?_, fun _ _ _ fv h => ⟨fv, h⟩⟩
  · rcases gset_bind c with ⟨_, e2⟩ | ⟨e1, e2⟩
    · cases e2
    · rcases sset_get q with ⟨e3, _⟩ | ⟨_, e4⟩
      · exact absurd e3 e1
      · exact .inl ⟨j, e, a, e2, e4, f⟩
  · exact store_kro q (fun z => nomatch z)
  · obtain ⟨h1, h2⟩ := store_kro (σ := σ) (v := some v) q (fun z => nomatch z); exact ⟨⟨e, h1⟩, h2⟩
/-- a cell that is known to nobody is taken by a name; it was not there at (F0, H0) -/
theorem Sta.setOw {K : Frag} (S : Sta K F g σ H) (P : Stp F0 H0 g0 σ F H g σ) (i : Nat) {a : Addr} {d : D} (c : Cell K F H a d) (n : ∀ x, Foot H a x → F x = none ∧ ¬ Own g σ H x ∧ H0 x = none) (S0 : Sta K F0 g0 σ H0) :
    Sta K F (g.set i (.ow d)) (σ.set i (some (.ref a))) H ∧ Stp F0 H0 g0 σ F H (g.set i (.ow d)) (σ.set i (some (.ref a))) := by
  have nro : ∀ x, Foot H a x → ∀ (j : Nat) (d : D) (b : Addr), g[j]? = some (Sl.ro d) → σ[j]? = some (some (V.ref b)) → b = x → Rep K F (.ref b) d := fun x f j d' b h1 h2 z => by
    subst z
    obtain ⟨h3, _⟩ := P.kro j d' h1
    obtain ⟨v, ev, r⟩ := S0.slot j _ h3
    rw [h2] at ev; cases ev
    rcases r with r | ⟨a', ea, ca, _⟩
    · exact r.mono P.fg
    · cases ea
      obtain ⟨u, hu⟩ := ca.at
      rw [(n _ f).2.2] at hu; cases hu
  refine ⟨S.store i (.ow d) (some (.ref a)) (fun _ => ⟨a, rfl, c, fun x f => (n x f).1⟩) (fun _ z => nomatch z) (fun d' a' _ ev x f => by cases ev; exact ⟨(n x f).2.1, nro x f⟩), P.fg, P.st, P.fr, fun x ⟨j, e, b, cb, q, f⟩ => ?_, fun j e q => ?_, fun j e q => ?_, P.ki⟩
  · rcases gset_bind cb with ⟨h1, h2⟩ | ⟨h1, h2⟩
    · rcases sset_get q with ⟨_, h4⟩ | ⟨h3, _⟩
      · cases h4; exact .inr (n x f).2.2
      · exact absurd h1 h3
    · rcases sset_get q with ⟨h3, _⟩ | ⟨_, h4⟩
      · exact absurd h3 h1
      · exact P.own x ⟨j, e, b, h2, h4, f⟩
  · obtain ⟨h1, h2⟩ := store_kro (σ := σ) (v := some (V.ref a)) q (fun z => nomatch z)
    obtain ⟨h3, h4⟩ := P.kro j e h1; exact ⟨h3, h2.trans h4⟩
  · obtain ⟨h1, h2⟩ := store_kro (σ := σ) (v := some (V.ref a)) q (fun z => nomatch z)
    obtain ⟨h3, h4⟩ := P.kmb j e h1; exact ⟨h3, h2.trans h4⟩
end
end Cq

set_option Elab.async false
set_option linter.all false
set_option maxRecDepth 100000
namespace Cq
open PySem PySem.Spec PyProof.Rows L2
section
variable {X : Cx} {W : WX} {pos : Pos} {σ : L2.St} {F H F0 H0 : Hp} {g g0 : Gm} {e : Expr}
/-! ### x = e -/
def mSet (i : Nat) (p : M D) : M Fl := p.bind fun d => fun g => some (.ok .nx (g.set i (.im d)))
def mSetN (i : Nat) (p : M D) : M Fl := p.bind fun d => fun g => some (.ok .nx (g.set i (.ow d)))
theorem tSet_ok {i : Nat} {p : M D} {E : Ends} (q : tS X.K W (mSet i p) E σ H) : tAsg (tG X.K W (relE X.K) p) (gName i) E σ H := by
  obtain ⟨F, g, S, q⟩ := q
  refine ⟨F, g, S, Pst_stm Stp.refl q fun d v F1 H1 g1 S1 P1 P01 r1 q1 => ?_⟩
  obtain ⟨S2, P2⟩ := S1.setIm i r1
  exact q1 F1 _ H1 S2 (P1.trans P2)
theorem tSetN_ok {i : Nat} {p : M D} {E : Ends} (q : tS X.K W (mSetN i p) E σ H) : tAsg (tG X.K W (relN X.K) p) (gName i) E σ H := by
  obtain ⟨F, g, S, q⟩ := q
  refine ⟨F, g, S, Pst_stm Stp.refl q fun d v F1 H1 g1 S1 P1 P01 r1 q1 => ?_⟩
  obtain ⟨a, ev, c, n⟩ := r1
  subst ev
  obtain ⟨S2, P2⟩ := S1.setOw P1 i c n S
  exact q1 F1 _ H1 S2 P2
theorem ss_set {x : Str} {p : M D} {pos' : Pos} (i : Nat) (hN : X.N.Nodup) (hi : X.N[i]? = some x) (hx : Loc X.env.scope x) (he : SE X W e p) (hs : swapsWith e (some (.Name x pos')) pos.line X.env = pure false := by rfl) (hf : X.fn x = true ∨ X.env.scope.names.lookup x = some .local := by first | exact .inl rfl | exact .inr rfl | assumption) :
    SS X W (.Assign [.Name x pos'] e pos) (mSet i p) := PS_imp (ps_set hN hi hx he hs hf) fun _ _ _ q => tSet_ok q
theorem ss_setN {x : Str} {p : M D} {pos' : Pos} (i : Nat) (hN : X.N.Nodup) (hi : X.N[i]? = some x) (hx : Loc X.env.scope x) (he : SN X W e p) (hs : swapsWith e (some (.Name x pos')) pos.line X.env = pure false := by rfl) (hf : X.fn x = true ∨ X.env.scope.names.lookup x = some .local := by first | exact .inl rfl | exact .inr rfl | assumption) :
    SS X W (.Assign [.Name x pos'] e pos) (mSetN i p) := PS_imp (ps_set hN hi hx he hs hf) fun _ _ _ q => tSetN_ok q

/-! ### targets -/
abbrev Tgt := D → Gm → Option Gm
/-- the slots differ at these places alone -/
def At (ns : List Nat) (σ σ' : L2.St) : Prop := σ'.length = σ.length ∧ ∀ (j : Nat), j ∉ ns → σ'[j]? = σ[j]?
def tTg (K : Frag) (ns : List Nat) (T : Tgt) : TG := fun v σ H Q => ∃ F g d g', Sta K F g σ H ∧ Rep K F v d ∧ T d g = some g' ∧ ∀ σ', Sta K F g' σ' H → Stp F H g σ F H g' σ' → At ns σ σ' → Q σ' H
def tTgs (K : Frag) (ns : List Nat) (T : List D → Gm → Option Gm) : TGs := fun vs σ H Q => ∃ F g ds g', Sta K F g σ H ∧ Reps K F vs ds ∧ T ds g = some g' ∧ ∀ σ', Sta K F g' σ' H → Stp F H g σ F H g' σ' → At ns σ σ' → Q σ' H
def SG (X : Cx) (tg : Expr) (ns : List Nat) (T : Tgt) : Prop := PG X tg (tTg X.K ns T)
def SGs (X : Cx) (tg : List Expr) (ns : List Nat) (T : List D → Gm → Option Gm) : Prop := PGs X tg (tTgs X.K ns T)
def tgNm (i : Nat) : Tgt := fun d g => some (g.set i (.im d))
def tgTup (n : Nat) (T : List D → Gm → Option Gm) : Tgt := fun d g => match d with
  | .tup ds => if ds.length = n then T ds g else none
  | _ => none
def tgNil : List D → Gm → Option Gm := fun ds g => match ds with
  | [] => some g
  | _ => none
def tgCons (t : Tgt) (u : List D → Gm → Option Gm) : List D → Gm → Option Gm := fun ds g => match ds with
  | d :: ds => (t d g).bind (u ds)
  | _ => none
theorem PG_imp {tg : Expr} {t t' : TG} (h : PG X tg t) (k : ∀ v σ H Q, t' v σ H Q → t v σ H Q) : PG X tg t' := ⟨fun pins s σ H v u Q I r q => h.run pins s σ H v u Q I r (k v σ H Q q)⟩
theorem PGs_imp {tg : List Expr} {t t' : TGs} (h : PGs X tg t) (k : ∀ v σ H Q, t' v σ H Q → t v σ H Q) : PGs X tg t' := ⟨fun pins s σ H v u Q I r q => h.run pins s σ H v u Q I r (k v σ H Q q)⟩
theorem sg_nm {x : Str} (i : Nat) (hN : X.N.Nodup) (hi : X.N[i]? = some x) (hx : Loc X.env.scope x) (hf : X.fn x = true ∨ X.env.scope.names.lookup x = some .local := by first | exact .inl rfl | exact .inr rfl | assumption) : SG X (.Name x pos) [i] (tgNm i) := PG_imp (pg_name hN hi hx hf) fun v σ H Q q => by
  obtain ⟨F, g, d, g', S, r, e, q⟩ := q
  cases e
  obtain ⟨S2, P2⟩ := S.setIm i r
  exact q _ S2 P2 ⟨by simp, fun j h => List.getElem?_set_ne fun z => h (by simp [z])⟩
theorem sg_nil : SGs X [] [] tgNil := PGs_imp pgs_nil fun v σ H Q q => by
  obtain ⟨F, g, d, g', S, r, e, q⟩ := q
  cases r with
  | nil => cases e; exact ⟨rfl, q σ S Stp.refl ⟨rfl, fun _ _ => rfl⟩⟩
  | cons _ _ => cases e
theorem sg_cons {a : Expr} {es : List Expr} {t : Tgt} {u : List D → Gm → Option Gm} {n1 n2 : List Nat} (h1 : SG X a n1 t) (h2 : SGs X es n2 u) (hs : (assignEach (a :: es) X.env).map (·.2) = assign a X.env :: (assignEach es X.env).map (·.2) := by rfl) : SGs X (a :: es) (n1 ++ n2) (tgCons t u) := PGs_imp (pgs_cons h1 h2 hs) fun v σ H Q q => by
  obtain ⟨F, g, d, g', S, r, e, q⟩ := q
  cases r with
  | nil => cases e
  | cons r rs =>
    unfold tgCons at e
    rename_i v d vs ds
    cases o : t d g with
    | none => simp only [o] at e; cases e
    | some g1 =>
      simp only [o] at e
      refine ⟨_, _, rfl, F, g, d, g1, S, r, o, fun σ1 S1 P1 A1 => ⟨F, g1, ds, g', S1, rs, e, fun σ2 S2 P2 A2 => q σ2 S2 (P1.trans P2) ⟨A2.1.trans A1.1, fun j h => (A2.2 j fun z => h (List.mem_append_right _ z)).trans (A1.2 j fun z => h (List.mem_append_left _ z))⟩⟩⟩
theorem sg_tup {es : List Expr} {k : Nat} {T : List D → Gm → Option Gm} {n : Nat} {ns : List Nat} (hc : X.calm = true) (h : SGs X es ns T) (hn : (assignEach es X.env).length = n := by rfl) (hst : (assignEach es X.env).findIdx? (·.1) = none := by rfl) : SG X (.Tuple es k pos) ns (tgTup n T) := PG_imp (pg_tup hc h hn hst) fun v σ H Q q => by
  obtain ⟨F, g, d, g', S, r, e, q⟩ := q
  unfold tgTup at e
  cases r with
  | tup hs rs =>
    rename_i a vs ds
    by_cases l : ds.length = n
    · simp only [if_pos l] at e
      exact ⟨a, vs, rfl, S.sub.tup hs, rs.length.trans l, F, g, ds, g', S, rs, e, q⟩
    · simp only [if_neg l] at e; cases e
  | _ => cases e
/-! ### lending a cell for a walk -/
def lendOut (l : Option Nat) (g : Gm) : Gm := match l with
  | none => g
  | some i => match g[i]? with
    | some (.ow d) => g.set i (.ro d)
    | some (.mb d) => g.set i (.ro d)
    | _ => g
/-- what was lent comes back: g0 ahead, g behind -/
def lendIn (l : Option Nat) (g0 g : Gm) : Option Gm := match l with
  | none => some g
  | some i => match g0[i]? with
    | some (.ow d) => (match g[i]? with
      | some (.ro _) => some (g.set i (.ow d))
      | _ => none)
    | some (.mb d) => (match g[i]? with
      | some (.ro _) => some (g.set i (.mb d))
      | _ => none)
    | _ => some g
theorem own_lend {K : Frag} (S : Sta K F g σ H) {i : Nat} {d : D} {a : Addr} (hc : (g[i]?).bind Sl.cell = some d) (ha : σ[i]? = some (some (V.ref a))) {x : Addr} (o : Own (g.set i (.ro d)) σ H x) : Own g σ H x ∧ ¬ Foot H a x := by
  obtain ⟨j, e, b, c, q, f⟩ := o
  rcases gset_bind c with ⟨_, h⟩ | ⟨h1, h2⟩
  · cases h
  · exact ⟨⟨j, e, b, h2, q, f⟩, fun fa => S.inj j i e d b a x h1 h2 hc q ha f fa⟩
theorem Sta.lend {K : Frag} (S : Sta K F g σ H) {i : Nat} {d : D} {a : Addr} (hc : (g[i]?).bind Sl.cell = some d) (ha : σ[i]? = some (some (V.ref a))) (fl : d.flat = true) :
    Sta K F (g.set i (.ro d)) σ H := by
  obtain ⟨a', e1, c, n⟩ := S.cell hc
  rw [ha] at e1; cases e1
  have fa := flat_lst c fun c' fs' z => by rw [z] at fl; cases fl
  refine ⟨S.sub, by simpa using S.len, fun j t e => ?_, fun j l d1 d2 b1 b2 x jl c1 c2 e1 e2 f1 f2 => ?_, fun j d' b e1 e2 => ?_, S.tb⟩
  · rcases set_get e with ⟨h1, h2⟩ | ⟨h1, h2⟩
    · subst h1; subst h2; exact ⟨_, ha, .inr ⟨a, rfl, c, fa⟩⟩
    · exact S.slot j t h2
  · rcases gset_bind c1 with ⟨_, h⟩ | ⟨h1, h2⟩
    · cases h
    · rcases gset_bind c2 with ⟨_, h⟩ | ⟨h3, h4⟩
      · cases h
      · exact S.inj j l d1 d2 b1 b2 x jl h2 h4 e1 e2 f1 f2
  · rcases set_get e1 with ⟨h1, h2⟩ | ⟨h1, h2⟩
    · subst h1; cases h2
      rw [ha] at e2; cases e2
      exact .inr fun o => (own_lend S hc ha o).2 (.inl rfl)
    · exact (S.ro j d' b h2 e2).imp id fun r o => r (own_lend S hc ha o).1
/-- behind the walk -/
theorem Sta.back {K : Frag} {F' H' : Hp} {g' : Gm} {σ' : L2.St} (S : Sta K F g σ H) {i : Nat} {d : D} {a : Addr} {s : Sl} (hs : g[i]? = some s) (hsc : s.cell = some d) (ha : σ[i]? = some (some (V.ref a))) (fl : d.flat = true)
    (S' : Sta K F' g' σ' H') (P : Stp F H (g.set i (.ro d)) σ F' H' g' σ') {d' : D} (hr : g'[i]? = some (.ro d')) :
    Sta K F' (g'.set i s) σ' H' ∧ Stp F H g σ F' H' (g'.set i s) σ' ∧ H' a = H a ∧ ∀ x, Own (g'.set i s) σ' H' x → Own g' σ' H' x ∨ Own g σ H x := by
  have hc : (g[i]?).bind Sl.cell = some d := by rw [hs]; exact hsc
  obtain ⟨a', e1, c, n⟩ := S.cell hc
  rw [ha] at e1; cases e1
  have fa := flat_lst c fun c' fs' z => by rw [z] at fl; cases fl
  have sro : ∀ d, s ≠ Sl.ro d := fun d z => by rw [z] at hsc; cases hsc
  obtain ⟨h1, h2⟩ := P.kro i d' hr
  rw [ha] at h2
  obtain ⟨u, hu⟩ := c.at
  have no : ¬ Own (g.set i (.ro d)) σ H a := fun o => (own_lend S hc ha o).2 (.inl rfl)
  obtain ⟨k1, k2⟩ := P.fr' hu (c.dt (.inl rfl) hu).1 (c.nt (.inl rfl) hu) (n a (.inl rfl)) no
  have same : H' a = H a := by rw [k1, hu]
  have c' : Cell K F' H' a d := c.same P.fg fun x o f q => by
    cases fa x f
    rw [hu] at q; cases q; exact k1
  have ft : ∀ x, Foot H' a x → x = a := flat_lst c' fun c' fs' z => by rw [z] at fl; cases fl
  have no' : ¬ Own g' σ' H' a := fun o => by
    rcases P.own a o with o | o
    · exact no o
    · rw [hu] at o; cases o
  have li : i < g'.length := by
    obtain ⟨h, _⟩ := List.getElem?_eq_some_iff.mp hr; exact h
  have ow : ∀ x, Own (g'.set i s) σ' H' x → Own g' σ' H' x ∨ x = a := fun x ⟨j, e, b, cc, q, f⟩ => by
    rcases gset_bind cc with ⟨z1, z2⟩ | ⟨z1, z2⟩
    · subst z1; rw [h2] at q; cases q; exact .inr (ft x f)
    · exact .inl ⟨j, e, b, z2, q, f⟩
  refine ⟨⟨S'.sub, by simpa using S'.len, fun j t e => ?_, fun j l d1 d2 b1 b2 x jl c1 c2 e1 e2 f1 f2 => ?_, fun j d1 b e1 e2 => ?_, S'.tb⟩, ⟨P.fg, P.st, fun x o z1 nb z2 z3 => P.fr x o z1 nb z2 fun o' => z3 (own_lend S hc ha o').1, fun x o => ?_, fun j d1 e => ?_, fun j d1 e => ?_, P.ki⟩, same, fun x o => (ow x o).imp id fun e => by rw [e]; exact ⟨i, d, a, hc, ha, .inl rfl⟩⟩
  · rcases set_get e with ⟨z1, z2⟩ | ⟨z1, z2⟩
    · subst z1; subst z2
      have : ∃ a, σ'[j]? = some (some (V.ref a)) ∧ Cell K F' H' a d ∧ ∀ x, Foot H' a x → F' x = none := ⟨a, h2, c', fun x f => by rw [ft x f]; exact k2⟩
      cases t with
      | ow e => cases hsc; exact this
      | mb e => cases hsc; exact this
      | _ => cases hsc
    · exact S'.slot j t z2
  · rcases gset_bind c1 with ⟨z1, z2⟩ | ⟨z1, z2⟩
    · rcases gset_bind c2 with ⟨z3, z4⟩ | ⟨z3, z4⟩
      · exact jl (z1.trans z3.symm)
      · subst z1; rw [h2] at e1; cases e1
        exact no' ⟨l, d2, b2, z4, e2, by rw [ft x f1] at f2; exact f2⟩
    · rcases gset_bind c2 with ⟨z3, z4⟩ | ⟨z3, z4⟩
      · subst z3; rw [h2] at e2; cases e2
        exact no' ⟨j, d1, b1, z2, e1, by rw [ft x f2] at f1; exact f1⟩
      · exact S'.inj j l d1 d2 b1 b2 x jl z2 z4 e1 e2 f1 f2
  · rcases set_get e1 with ⟨z1, z2⟩ | ⟨z1, z2⟩
    · exact absurd z2.symm (sro d1)
    · by_cases ba : b = a
      · subst ba
        obtain ⟨k3, k4⟩ := P.kro j d1 z2
        rcases set_get k3 with ⟨w1, _⟩ | ⟨w1, w2⟩
        · exact absurd w1 z1
        · rw [e2] at k4
          rcases S.ro j d1 b w2 k4.symm with r | r
          · exact .inl (r.mono P.fg)
          · exact absurd ⟨i, d, b, hc, ha, .inl rfl⟩ r
      · refine (S'.ro j d1 b z2 e2).imp id fun r o => ?_
        rcases ow b o with o | o
        · exact r o
        · exact ba o
  · rcases ow x o with o | o
    · rcases P.own x o with o | o
      · exact .inl (own_lend S hc ha o).1
      · exact .inr o
    · rw [o]; exact .inl ⟨i, d, a, hc, ha, .inl rfl⟩
  · rcases set_get e with ⟨z1, z2⟩ | ⟨z1, z2⟩
    · exact absurd z2.symm (sro d1)
    · obtain ⟨k3, k4⟩ := P.kro j d1 z2
      rcases set_get k3 with ⟨w1, _⟩ | ⟨_, w2⟩
      · exact absurd w1 z1
      · exact ⟨w2, k4⟩
  · rcases set_get e with ⟨z1, z2⟩ | ⟨z1, z2⟩
    · subst z1; subst z2; exact ⟨⟨d1, hs⟩, by rw [h2, ha]⟩
    · obtain ⟨⟨e', k3⟩, k4⟩ := P.kmb j d1 z2
      rcases set_get k3 with ⟨w1, _⟩ | ⟨_, w2⟩
      · exact absurd w1 z1
      · exact ⟨⟨e', w2⟩, k4⟩
end
end Cq

set_option Elab.async false
set_option linter.all false
set_option maxRecDepth 100000
namespace Cq
open PySem PySem.Spec PyProof.Rows L2
structure Items (K : Frag) (F : Hp) (L : Hp → Prop) (J : It) (ds : List D) : Prop where
  go : ∀ i H, Sub F H → L H → i < ds.length → J.go i H
  stop : ∀ i H, Sub F H → L H → ds.length ≤ i → J.stop i H
  yld : ∀ i H x H' F1 d, Sub F F1 → Sub F1 H → L H → J.yld i H x H' → ds[i]? = some d → ∃ F2, Al F1 H F2 H' ∧ Rep K F2 x d
def relI (K : Frag) (l : Option Nat) : Rl (List D) It := fun σ H0 F' H' g' ds J => ∃ L : Hp → Prop, Items K F' L J ds ∧ L H' ∧ (∀ F2 H2 σ2 g2, Stp F' H' (lendOut l g') σ F2 H2 g2 σ2 → L H2) ∧ ∀ i d, l = some i → (g'[i]?).bind Sl.cell = some d → d.flat = true
def SI (X : Cx) (W : WX) (l : Option Nat) (tg iter : Expr) (m : M (List D)) : Prop := PI X tg iter (tG X.K W (relI X.K l) m)
def forL (T : Tgt) (body : M Fl) : List D → M Fl
  | [] => M.ret .nx
  | d :: ds => fun g => match T d g with
    | none => none
    | some g1 => match body g1 with
      | some (.ok .nx g2) => forL T body ds g2
      | some (.ok .ct g2) => forL T body ds g2
      | some (.ok .bk g2) => some (.ok .nx g2)
      | o => o
def mBack {α : Type} (l : Option Nat) (g : Gm) (o : Option (Res α)) : Option (Res α) := match o with
  | none => none
  | some (.ok f g') => (match lendIn l g g' with
    | some g'' => some (.ok f g'')
    | none => none)
  | some (.ex c g') => (match lendIn l g g' with
    | some g'' => some (.ex c g'')
    | none => none)
def mFor (l : Option Nat) (it : M (List D)) (T : Tgt) (body : M Fl) : M Fl := it.bind fun ds => fun g => mBack l g (forL T body ds (lendOut l g))
section
variable {X : Cx} {W : WX} {pos : Pos} {σ : L2.St} {F H F0 H0 : Hp} {g g0 : Gm} {e : Expr}
/-- the three ways of a lending -/
theorem lend_cases {K : Frag} {l : Option Nat} (S : Sta K F g σ H) (fl : ∀ i d, l = some i → (g[i]?).bind Sl.cell = some d → d.flat = true) :
    (lendOut l g = g ∧ ∀ g', lendIn l g g' = some g') ∨ ∃ i s d a, l = some i ∧ g[i]? = some s ∧ s.cell = some d ∧ σ[i]? = some (some (V.ref a)) ∧ d.flat = true ∧ lendOut l g = g.set i (.ro d) ∧ ∀ g', (∀ g'', lendIn l g g' = some g'' → (∃ d', g'[i]? = some (.ro d')) ∧ g'' = g'.set i s) := by
  cases l with
  | none => exact .inl ⟨rfl, fun _ => rfl⟩
  | some i =>
    cases e : g[i]? with
    | none => exact .inl ⟨by simp [lendOut, e], fun _ => by simp [lendIn, e]⟩
    | some s =>
      have hc : ∀ d, s.cell = some d → (g[i]?).bind Sl.cell = some d := fun d h => by rw [e]; exact h
      have tail : ∀ d, s.cell = some d → (∀ g', ∀ g'', lendIn (some i) g g' = some g'' → (∃ d', g'[i]? = some (.ro d')) ∧ g'' = g'.set i s) → lendOut (some i) g = g.set i (.ro d) → ∃ i' s' d a, some i = some i' ∧ g[i']? = some s' ∧ s'.cell = some d ∧ σ[i']? = some (some (V.ref a)) ∧ d.flat = true ∧ lendOut (some i) g = g.set i' (.ro d) ∧ ∀ g', (∀ g'', lendIn (some i) g g' = some g'' → (∃ d', g'[i']? = some (.ro d')) ∧ g'' = g'.set i' s') := fun d h1 h2 h3 => by
        obtain ⟨a, ha, _⟩ := S.cell (hc d h1)
        exact ⟨i, s, d, a, rfl, e, h1, ha, fl i d rfl (hc d h1), h3, h2⟩
      cases s with
      | un => exact .inl ⟨by simp [lendOut, e], fun _ => by simp [lendIn, e]⟩
      | im d => exact .inl ⟨by simp [lendOut, e], fun _ => by simp [lendIn, e]⟩
      | ro d => exact .inl ⟨by simp [lendOut, e], fun _ => by simp [lendIn, e]⟩
      | ow d =>
        refine .inr (tail d rfl (fun g' g'' h => by
          simp only [lendIn, e] at h
          cases q : g'[i]? with
          | none => simp only [q] at h; cases h
          | some t => cases t with
            | ro d' => simp only [q] at h; exact ⟨⟨d', rfl⟩, (Option.some.inj h).symm⟩
            | _ => simp only [q] at h; cases h) (by simp [lendOut, e]))
      | mb d =>
        refine .inr (tail d rfl (fun g' g'' h => by
          simp only [lendIn, e] at h
          cases q : g'[i]? with
          | none => simp only [q] at h; cases h
          | some t => cases t with
            | ro d' => simp only [q] at h; exact ⟨⟨d', rfl⟩, (Option.some.inj h).symm⟩
            | _ => simp only [q] at h; cases h) (by simp [lendOut, e]))
theorem lend_sta {K : Frag} {l : Option Nat} (S : Sta K F g σ H) (fl : ∀ i d, l = some i → (g[i]?).bind Sl.cell = some d → d.flat = true) : Sta K F (lendOut l g) σ H := by
  rcases lend_cases S fl with ⟨h, _⟩ | ⟨i, s, d, a, _, h1, h2, h3, h4, h5, _⟩
  · rw [h]; exact S
  · rw [h5]; exact S.lend (by rw [h1]; exact h2) h3 h4
theorem lend_back {K : Frag} {l : Option Nat} {F' H' : Hp} {g' g'' : Gm} {σ' : L2.St} (S : Sta K F g σ H) (fl : ∀ i d, l = some i → (g[i]?).bind Sl.cell = some d → d.flat = true)
    (S' : Sta K F' g' σ' H') (P : Stp F H (lendOut l g) σ F' H' g' σ') (h : lendIn l g g' = some g'') : Sta K F' g'' σ' H' ∧ Stp F H g σ F' H' g'' σ' ∧ ∀ x, Own g'' σ' H' x → Own g' σ' H' x ∨ Own g σ H x := by
  rcases lend_cases S fl with ⟨h1, h2⟩ | ⟨i, s, d, a, _, h1, h2, h3, h4, h5, h6⟩
  · rw [h2] at h; cases h; rw [h1] at P; exact ⟨S', P, fun x o => .inl o⟩
  · rw [h5] at P
    obtain ⟨⟨d', e1⟩, e2⟩ := h6 g' g'' h
    subst e2
    obtain ⟨z1, z2, _, z4⟩ := S.back h1 h2 h3 h4 S' P e1
    exact ⟨z1, z2, z4⟩
theorem back_ok {K : Frag} {l : Option Nat} {E : Ends} {o : Option (Res Fl)} (S : Sta K F g σ H) (fl : ∀ i d, l = some i → (g[i]?).bind Sl.cell = some d → d.flat = true) (q : PstS K W F H g σ E (mBack l g o)) : PstS K W F H (lendOut l g) σ E o := by
  cases o with
  | none => exact q
  | some r => cases r with
    | ex c g' =>
      simp only [mBack] at q
      cases h : lendIn l g g' with
      | none => rw [h] at q; exact q.elim
      | some g'' =>
        rw [h] at q
        exact fun F' σ' H' S' P' => let ⟨z1, z2, _⟩ := lend_back S fl S' P' h; q F' σ' H' z1 z2
    | ok f g' =>
      simp only [mBack] at q
      cases h : lendIn l g g' with
      | none => rw [h] at q; exact q.elim
      | some g'' =>
        rw [h] at q
        cases f with
        | nx => exact fun F' σ' H' S' P' => let ⟨z1, z2, _⟩ := lend_back S fl S' P' h; q F' σ' H' z1 z2
        | bk => exact fun F' σ' H' S' P' => let ⟨z1, z2, _⟩ := lend_back S fl S' P' h; q F' σ' H' z1 z2
        | ct => exact fun F' σ' H' S' P' => let ⟨z1, z2, _⟩ := lend_back S fl S' P' h; q F' σ' H' z1 z2
        | rt d => exact fun v F' σ' H' S' P' r => let ⟨z1, z2, _⟩ := lend_back S fl S' P' h; q v F' σ' H' z1 z2 r
        | rn d =>
          intro v F' σ' H' S' P' ⟨b, ev, c, k⟩
          obtain ⟨z1, z2, _⟩ := lend_back S fl S' P' h
          refine q v F' σ' H' z1 z2 ⟨b, ev, c, fun x fx => ?_⟩
          obtain ⟨k1, k2, k3⟩ := k x fx
          rcases lend_cases S fl with ⟨h1, h2⟩ | ⟨i, s, d0, a, _, h1, h2, h3, h4, h5, h6⟩
          · rw [h2] at h; cases h
            rw [h1] at k2
            exact ⟨k1, k2, k3⟩
          · obtain ⟨⟨d', e1⟩, e2⟩ := h6 g' g'' h
            subst e2
            rw [h5] at k2 P'
            have hc : (g[i]?).bind Sl.cell = some d0 := by rw [h1]; exact h2
            obtain ⟨a', w1, w2, w3⟩ := S.cell hc
            rw [h3] at w1; cases w1
            obtain ⟨u, hu⟩ := w2.at
            have na : x ≠ a := fun z => by
              rw [z] at k2
              rcases k2 with o | o
              · exact (own_lend S hc h3 o).2 (.inl rfl)
              · rw [hu] at o; cases o
            refine ⟨k1, k2.imp (fun o => (own_lend S hc h3 o).1) id, fun j dj hj bj hb fb => ?_⟩
            rcases set_get hj with ⟨y1, y2⟩ | ⟨y1, y2⟩
            · subst y1
              obtain ⟨t1, t2⟩ := P'.kro _ _ e1
              rw [t2, h3] at hb; cases hb
              obtain ⟨_, _, same, _⟩ := S.back h1 h2 h3 h4 S' P' e1
              exact na (flat_lst w2 (fun c' fs' z => by rw [z] at h4; cases h4) x (fb.same hu same))
            · exact k3 j dj y2 bj hb fb
theorem forL_ok {T : Tgt} {body : M Fl} {E : Ends} {d : D} {ds : List D} {g1 : Gm} (q : PstS X.K W F0 H0 g0 σ E (forL T body (d :: ds) g)) : ∃ g1, T d g = some g1 ∧ ∀ N : L2.St → Hp → Prop, (∀ F' g' σ' H', Sta X.K F' g' σ' H' → Stp F0 H0 g0 σ F' H' g' σ' → PstS X.K W F0 H0 g0 σ E (forL T body ds g') → N σ' H') →
    PstS X.K W F0 H0 g0 σ { E with nx := N, ct := N, bk := E.nx } (body g1) := by
  simp only [forL] at q
  cases o : T d g with
  | none => simp only [o] at q; exact q.elim
  | some g1 =>
    simp only [o] at q
    refine ⟨g1, rfl, fun N hN => ?_⟩
    cases b : body g1 with
    | none => simp only [b] at q; exact q
    | some r => cases r with
      | ex c g2 => simp only [b] at q; exact q
      | ok f g2 => cases f with
        | nx => simp only [b] at q; exact fun F' σ' H' S' P' => hN F' g2 σ' H' S' P' q
        | ct => simp only [b] at q; exact fun F' σ' H' S' P' => hN F' g2 σ' H' S' P' q
        | bk => simp only [b] at q; exact q
        | rt d => simp only [b] at q; exact q
        | rn d => simp only [b] at q; exact q
theorem ss_for {l : Option Nat} {tg iter : Expr} {body : List Stmt} {m : M (List D)} {T : Tgt} {ns : List Nat} {mb : M Fl} (hp : PassesOwn (model X.prog X.w) X.A X.env X.xe) (hc : X.calm = true) (hi : SI X W l tg iter m) (hg : SG X tg ns T) (hb : SSs X W body mb)
    (hs : ∀ x, foldedSetIterable iter X.env x = pure x := by intro _; rfl) : SS X W (.For tg iter body [] pos) (mFor l m T mb) := PS_imp (ps_for hp hc hi hg hb hs) fun E σ H q => by
  obtain ⟨F, g, S, q⟩ := q
  refine ⟨F, g, S, Pst_stm Stp.refl q fun ds J F1 H1 g1 S1 P1 P01 r1 q1 => ?_⟩
  obtain ⟨L, it, l0, lk, fl⟩ := r1
  have q2 := back_ok S1 fl (PstS_from P1 q1)
  have S2 := lend_sta S1 fl
  refine ⟨fun i m σ' H' => ∃ F' g', Sta X.K F' g' σ' H' ∧ Stp F1 H1 (lendOut l g1) σ F' H' g' σ' ∧ m = ds.length - i ∧ i ≤ ds.length ∧ PstS X.K W F1 H1 (lendOut l g1) σ E (forL T mb (ds.drop i) g'), ⟨ds.length, F1, _, S2, Stp.refl, rfl, Nat.zero_le _, q2⟩, ?_⟩
  rintro i m σ3 H3 ⟨F3, g3, S3, P3, rfl, hi, q3⟩
  have L3 := lk _ _ _ _ P3
  have sub := P3.fg.trans S3.sub
  by_cases lt : i < ds.length
  · refine .inr ⟨it.go i H3 sub L3 lt, fun σ' H' => ∃ F' g', Sta X.K F' g' σ' H' ∧ Stp F1 H1 (lendOut l g1) σ F' H' g' σ' ∧ PstS X.K W F1 H1 (lendOut l g1) σ E (forL T mb (ds.drop (i + 1)) g'), fun σ' H' ⟨F', g', S', P', q'⟩ => ⟨ds.length - (i + 1), by omega, F', g', S', P', rfl, lt, q'⟩, fun x H' y => ?_⟩
    obtain ⟨F4, A, r4⟩ := it.yld i H3 x H' F3 ds[i] P3.fg S3.sub L3 y (List.getElem?_eq_getElem lt)
    obtain ⟨S4, P4⟩ := S3.al A
    rw [List.drop_eq_getElem_cons lt] at q3
    obtain ⟨g5, hT, k⟩ := forL_ok (X := X) (g1 := g3) q3
    refine ⟨F4, g3, ds[i], g5, S4, r4, hT, fun σ5 S5 P5 _ => ⟨F4, g5, S5, ?_⟩⟩
    exact PstS_from (P3.trans (P4.trans P5)) (k _ fun F' g' σ' H' S' P' q' => ⟨F', g', S', P', q'⟩)
  · have e : i = ds.length := by omega
    subst e
    rw [List.drop_length] at q3
    exact .inl ⟨it.stop _ H3 sub L3 (Nat.le_refl _), q3 F3 σ3 H3 S3 P3⟩
end
end Cq

set_option Elab.async false
set_option linter.all false
set_option maxRecDepth 100000
namespace Cq
open PySem PySem.Spec PyProof.Rows L2
/-! ### contracts of defs -/
inductive Md where
  | im | ro | mu
  deriving DecidableEq
inductive FR where
  | ret (d : D) (es : List D) | new (d : D) (es : List D) | exc (c : Nat) (es : List D)
abbrev Fn := List D → Option FR
def slotOf : Md → D → Sl
  | .im, d => .im d
  | .ro, d => .ro d
  | .mu, d => .mb d
def gOf : List Md → List D → Gm
  | m :: ms, d :: ds => slotOf m d :: gOf ms ds
  | _, _ => []
def gAft : List Md → List D → List D → Gm
  | .mu :: ms, _ :: ds, e :: es => .mb e :: gAft ms ds es
  | .mu :: _, _ :: _, [] => []
  | m :: ms, d :: ds, es => slotOf m d :: gAft ms ds es
  | _, _, _ => []
def spF (K : Frag) (ms : List Md) (f : Fn) : Sp := fun vs H Q E => ∃ F ds, ds.length = ms.length ∧ vs.length = ms.length ∧ Sta K F (gOf ms ds) (vs.map some) H ∧ match f ds with
  | none => False
  | some (.ret d es) => ∀ v F' H', Sta K F' (gAft ms ds es) (vs.map some) H' → Stp F H (gOf ms ds) (vs.map some) F' H' (gAft ms ds es) (vs.map some) → Rep K F' v d → Q v H'
  | some (.new d es) => ∀ a F' H', Sta K F' (gAft ms ds es) (vs.map some) H' → Stp F H (gOf ms ds) (vs.map some) F' H' (gAft ms ds es) (vs.map some) → Cell K F' H' a d → (∀ x, Foot H' a x → F' x = none ∧ ¬ Own (gAft ms ds es) (vs.map some) H' x ∧ H x = none) → Q (.ref a) H'
  | some (.exc c es) => ∀ F' H', Sta K F' (gAft ms ds es) (vs.map some) H' → Stp F H (gOf ms ds) (vs.map some) F' H' (gAft ms ds es) (vs.map some) → E (exv K c) none H'
def Sl.put : Sl → D → Sl
  | .ow _, e => .ow e
  | .mb _, e => .mb e
  | s, _ => s
section
variable {K : Frag} {σ σp : L2.St} {F H F' H' : Hp} {g g' gp gp' : Gm}
/-- behind a call: the callee's cells are the caller's -/
theorem Sta.called (S : Sta K F g σ H) (P : Stp F H gp σp F' H' gp' σp) (S' : Sta K F' gp' σp H') (R : Nat → Nat → Prop)
    (h1 : ∀ p i, R p i → σp[p]? = σ[i]? ∧ ∃ d, (g[i]?).bind Sl.cell = some d) (h2 : ∀ p d, (gp[p]?).bind Sl.cell = some d → ∃ i, R p i)
    (h3 : ∀ p i j, R p i → R p j → i = j) (len : g'.length = g.length)
    (hg : ∀ i, (∃ p s e, R p i ∧ g[i]? = some s ∧ gp'[p]? = some (.mb e) ∧ g'[i]? = some (s.put e)) ∨ ((∀ p, ¬ R p i) ∧ g'[i]? = g[i]?)) : Sta K F' g' σ H' ∧ Stp F H g σ F' H' g' σ ∧ ∀ x, Own g' σ H' x → Own gp' σp H' x ∨ Own g σ H x := by
  -- the callee's own is the caller's, at the passed slots
  have ownp : ∀ x, Own gp σp H x → ∃ p i d a, R p i ∧ (g[i]?).bind Sl.cell = some d ∧ σ[i]? = some (some (V.ref a)) ∧ Foot H a x := fun x ⟨p, d, a, c, e, f⟩ => by
    obtain ⟨i, r⟩ := h2 p d c
    obtain ⟨z1, d', z2⟩ := h1 p i r
    exact ⟨p, i, d', a, r, z2, by rw [← z1]; exact e, f⟩
  have ownp' : ∀ x, Own gp σp H x → Own g σ H x := fun x o => let ⟨p, i, d, a, r, c, e, f⟩ := ownp x o; ⟨i, d, a, c, e, f⟩
  -- a slot that was not passed
  have stay : ∀ i d a, (∀ p, ¬ R p i) → (g[i]?).bind Sl.cell = some d → σ[i]? = some (some (V.ref a)) → Cell K F' H' a d ∧ H' a = H a ∧ ∀ x, Foot H' a x → F' x = none ∧ ∃ o, H x = some o := fun i d a nr c e => by
    obtain ⟨a', e', k, n⟩ := S.cell c
    rw [e] at e'; cases e'
    have pr : ∀ x o, Foot H a x → H x = some o → H' x = some o ∧ F' x = none := fun x o f hx => P.fr' hx (k.dt f hx).1 (k.nt f hx) (n x f) fun ow => by
      obtain ⟨p, j, d', b, r, c', e2, f2⟩ := ownp x ow
      refine S.inj i j d d' a b x (fun z => ?_) c c' e e2 f f2
      subst z; exact nr p r
    obtain ⟨u, hu⟩ := k.at
    have same : H' a = H a := by rw [(pr a u (.inl rfl) hu).1, hu]
    refine ⟨k.same P.fg fun x o f hx => (pr x o f hx).1, same, fun x f => ?_⟩
    have f0 := f.same hu same
    obtain ⟨o, ho⟩ := k.foot f0
    exact ⟨(pr x o f0 ho).2, o, ho⟩
  -- the cells behind
  have cells : ∀ i d', (g'[i]?).bind Sl.cell = some d' → (∃ p e, R p i ∧ gp'[p]? = some (.mb e) ∧ d' = e ∧ σp[p]? = σ[i]?) ∨ ((∀ p, ¬ R p i) ∧ (g[i]?).bind Sl.cell = some d') := fun i d' c => by
    rcases hg i with ⟨p, s, e, r, z1, z2, z3⟩ | ⟨z1, z2⟩
    · rw [z3] at c
      cases s with
      | ow _ => cases c; exact .inl ⟨p, _, r, z2, rfl, (h1 p i r).1⟩
      | mb _ => cases c; exact .inl ⟨p, _, r, z2, rfl, (h1 p i r).1⟩
      | _ => cases c
    · rw [z2] at c; exact .inr ⟨z1, c⟩
  have own' : ∀ x, Own g' σ H' x → Own g σ H x ∨ H x = none := fun x ⟨i, d', a, c, e, f⟩ => by
    rcases cells i d' c with ⟨p, e', r, z1, z2, z3⟩ | ⟨z1, z2⟩
    · rcases P.own x ⟨p, e', a, by rw [z1]; rfl, by rw [z3]; exact e, f⟩ with o | o
      · exact .inl (ownp' x o)
      · exact .inr o
    · obtain ⟨k, same, n⟩ := stay i d' a z1 z2 e
      obtain ⟨a', e', k0, _⟩ := S.cell z2
      rw [e] at e'; cases e'
      obtain ⟨u, hu⟩ := k0.at
      exact .inl ⟨i, d', a, z2, e, f.same hu same⟩
  have own2 : ∀ x, Own g' σ H' x → Own gp' σp H' x ∨ Own g σ H x := fun x ⟨i, d', a, c, e, f⟩ => by
    rcases cells i d' c with ⟨p, e', r, z1, z2, z3⟩ | ⟨z1, z2⟩
    · exact .inl ⟨p, e', a, by rw [z1]; rfl, by rw [z3]; exact e, f⟩
    · obtain ⟨k, same, n⟩ := stay i d' a z1 z2 e
      obtain ⟨a', e', k0, _⟩ := S.cell z2
      rw [e] at e'; cases e'
      obtain ⟨u, hu⟩ := k0.at
      exact .inr ⟨i, d', a, z2, e, f.same hu same⟩
  refine ⟨⟨S'.sub, len.trans S.len, fun i t e => ?_, fun i j d e a b x ij c1 c2 e1 e2 f1 f2 => ?_, fun i d a e1 e2 => ?_, S'.tb⟩, ⟨P.fg, P.st, fun x o z1 nb z2 z3 => P.fr x o z1 nb z2 fun ow => z3 (ownp' x ow), own', fun i d e => ⟨?_, rfl⟩, fun i d e => ⟨?_, rfl⟩, P.ki⟩, own2⟩
  · rcases hg i with ⟨p, s, e', r, z1, z2, z3⟩ | ⟨z1, z2⟩
    · have k := S'.slot p _ z2
      obtain ⟨w, _⟩ := h1 p i r
      rw [w] at k
      obtain ⟨_, d0, hd⟩ := h1 p i r
      rw [z1] at hd
      rw [z3] at e
      cases s with
      | ow _ => cases e; exact k
      | mb _ => cases e; exact k
      | _ => cases hd
    · rw [z2] at e
      have k := S.slot i t e
      have cell : ∀ d, t.cell = some d → (∃ a, σ[i]? = some (some (V.ref a)) ∧ Cell K F H a d ∧ ∀ x, Foot H a x → F x = none) → ∃ a, σ[i]? = some (some (V.ref a)) ∧ Cell K F' H' a d ∧ ∀ x, Foot H' a x → F' x = none := fun d hd ⟨a, w1, _, _⟩ => by
        obtain ⟨k1, _, k3⟩ := stay i d a z1 (by rw [e]; exact hd) w1
        exact ⟨a, w1, k1, fun x f => (k3 x f).1⟩
      cases t with
      | un => trivial
      | im d => obtain ⟨v, w, r⟩ := k; exact ⟨v, w, r.mono P.fg⟩
      | ow d => exact cell d rfl k
      | mb d => exact cell d rfl k
      | ro d =>
        obtain ⟨v, w, r⟩ := k
        refine ⟨v, w, ?_⟩
        rcases r with r | ⟨a, rfl, c, n⟩
        · exact .inl (r.mono P.fg)
        · rcases S.ro i d a e w with r | r
          · exact .inl (r.mono P.fg)
          · obtain ⟨u, hu⟩ := c.at
            have same : H' a = some u := by
              cases hf : F a with
              | none => exact (P.fr a u hu (c.dt (.inl rfl) hu).1 (fun _ => hf) fun ow => r (ownp' a ow)).1
              | some o =>
                have := S.sub _ _ hf
                rw [hu] at this; cases this
                exact S'.sub _ _ (P.fg _ _ hf)
            exact .inr ⟨a, rfl, c.same P.fg fun x o f hx => by
              cases n x f
              rw [hu] at hx; cases hx; exact same, fun x f => n x (f.same hu (by rw [same, hu]))⟩
  · rcases cells i d c1 with ⟨p, e', r, z1, z2, z3⟩ | ⟨z1, z2⟩
    · rcases cells j e c2 with ⟨q, e'', r', w1, w2, w3⟩ | ⟨w1, w2⟩
      · refine S'.inj p q e' e'' a b x (fun z => ?_) (by rw [z1]; rfl) (by rw [w1]; rfl) (by rw [z3]; exact e1) (by rw [w3]; exact e2) f1 f2
        subst z; exact ij (h3 p i j r r')
      · obtain ⟨k, same, n⟩ := stay j e b w1 w2 e2
        obtain ⟨o, ho⟩ := (n x f2).2
        rcases P.own x ⟨p, e', a, by rw [z1]; rfl, by rw [z3]; exact e1, f1⟩ with ow | ow
        · obtain ⟨p', i', d', a', r', c', e', f'⟩ := ownp x ow
          obtain ⟨_, q1, k0, _⟩ := S.cell w2
          rw [e2] at q1; cases q1
          obtain ⟨u, hu⟩ := k0.at
          refine S.inj i' j d' e a' b x (fun z => ?_) c' w2 e' e2 f' (f2.same hu same)
          subst z; exact w1 p' r'
        · rw [ho] at ow; cases ow
    · rcases cells j e c2 with ⟨q, e'', r', w1, w2, w3⟩ | ⟨w1, w2⟩
      · obtain ⟨k, same, n⟩ := stay i d a z1 z2 e1
        obtain ⟨o, ho⟩ := (n x f1).2
        rcases P.own x ⟨q, e'', b, by rw [w1]; rfl, by rw [w3]; exact e2, f2⟩ with ow | ow
        · obtain ⟨p', i', d', a', r', c', e', f'⟩ := ownp x ow
          obtain ⟨_, q1, k0, _⟩ := S.cell z2
          rw [e1] at q1; cases q1
          obtain ⟨u, hu⟩ := k0.at
          refine S.inj i' i d' d a' a x (fun z => ?_) c' z2 e' e1 f' (f1.same hu same)
          subst z; exact z1 p' r'
        · rw [ho] at ow; cases ow
      · obtain ⟨_, same, _⟩ := stay i d a z1 z2 e1
        obtain ⟨_, same', _⟩ := stay j e b w1 w2 e2
        obtain ⟨_, q1, k0, _⟩ := S.cell z2
        rw [e1] at q1; cases q1
        obtain ⟨u, hu⟩ := k0.at
        obtain ⟨_, q2, k1, _⟩ := S.cell w2
        rw [e2] at q2; cases q2
        obtain ⟨u', hu'⟩ := k1.at
        exact S.inj i j d e a b x ij z2 w2 e1 e2 (f1.same hu same) (f2.same hu' same')
  · have e0 : g[i]? = some (.ro d) := by
      rcases hg i with ⟨p, s, e', r, z1, z2, z3⟩ | ⟨z1, z2⟩
      · rw [z3] at e1
        obtain ⟨_, d0, hd⟩ := h1 p i r
        rw [z1] at hd
        cases s with
        | ow _ => cases e1
        | mb _ => cases e1
        | _ => cases hd
      · rw [← z2]; exact e1
    refine (Classical.em (Rep K F' (.ref a) d)).imp id fun nr ow => ?_
    rcases S.ro i d a e0 e2 with r | r
    · exact nr (r.mono P.fg)
    · rcases own' a ow with o | o
      · exact r o
      · obtain ⟨v, w, rv⟩ := S.slot i _ e0
        rw [e2] at w; cases w
        rcases rv with rv | ⟨_, z, c, _⟩
        · exact nr (rv.mono P.fg)
        · cases z
          obtain ⟨u, hu⟩ := c.at
          rw [o] at hu; cases hu
  · rcases hg i with ⟨p, s, e', r, z1, z2, z3⟩ | ⟨z1, z2⟩
    · rw [z3] at e
      obtain ⟨_, d0, hd⟩ := h1 p i r
      rw [z1] at hd
      cases s with
      | ow _ => cases e
      | mb _ => cases e
      | _ => cases hd
    · rw [← z2]; exact e
  · rcases hg i with ⟨p, s, e', r, z1, z2, z3⟩ | ⟨z1, z2⟩
    · rw [z3] at e
      cases s with
      | mb d0 => exact ⟨d0, z1⟩
      | ow _ => cases e
      | un => cases e
      | im _ => cases e
      | ro _ => cases e
    · exact ⟨d, by rw [← z2]; exact e⟩
end
end Cq

set_option Elab.async false
set_option linter.all false
set_option maxRecDepth 100000
namespace Cq
open PySem PySem.Spec PyProof.Rows L2
/-! ### arguments handed on -/
def mFrzM : List Md → List Hd → M (List Hd)
  | .im :: ms, h :: hs => (mFrz h).bind fun d => (mFrzM ms hs).bind fun hs' => M.ret (.va d :: hs')
  | .ro :: ms, h :: hs => (mFrzM ms hs).bind fun hs' => M.ret (h :: hs')
  | .mu :: ms, h :: hs => (mFrzM ms hs).bind fun hs' => M.ret (h :: hs')
  | _, [] => M.ret []
  | [], _ => M.fail
def argD (g : Gm) : Md → Hd → Option D
  | .im, .va d => some d
  | .ro, h => h.rd g
  | .mu, .nm i => (g[i]?).bind Sl.cell
  | _, _ => none
def argDs (g : Gm) : List Md → List Hd → Option (List D)
  | [], [] => some []
  | m :: ms, h :: hs => match argD g m h, argDs g ms hs with
    | some d, some ds => some (d :: ds)
    | _, _ => none
  | _, _ => none
def Hd.isNm (i : Nat) : Hd → Bool
  | .nm j => j == i
  | _ => false
def nmu : List Md → List Hd → List Nat
  | .mu :: ms, .nm i :: hs => i :: nmu ms hs
  | _ :: ms, _ :: hs => nmu ms hs
  | _, _ => []
def apartB : List Md → List Hd → Bool
  | .mu :: ms, .nm i :: hs => !(hs.any (Hd.isNm i)) && apartB ms hs
  | _ :: ms, .nm i :: hs => !((nmu ms hs).contains i) && apartB ms hs
  | _ :: ms, _ :: hs => apartB ms hs
  | _, _ => true
def putMu : List Md → List Hd → List D → Gm → Option Gm
  | .mu :: ms, .nm i :: hs, e :: es, g => match g[i]? with
    | some s => putMu ms hs es (g.set i (s.put e))
    | none => none
  | .mu :: _, _, _, _ => none
  | _ :: ms, _ :: hs, es, g => putMu ms hs es g
  | [], [], _, g => some g
  | _, _, _, _ => none
section
variable {X : Cx} {W : WX} {pos : Pos} {σ : L2.St} {F H F0 H0 : Hp} {g g0 : Gm}
theorem argDs_get : ∀ {ms : List Md} {hs : List Hd} {ds : List D}, argDs g ms hs = some ds → ds.length = ms.length ∧ hs.length = ms.length ∧ ∀ (p : Nat) (m : Md), ms[p]? = some m → ∃ h d, hs[p]? = some h ∧ ds[p]? = some d ∧ argD g m h = some d
  | [], [], _, e => by cases e; exact ⟨rfl, rfl, fun p m h => by simp at h⟩
  | m :: ms, h :: hs, ds, e => by
    simp only [argDs] at e
    cases a : argD g m h with
    | none => simp only [a] at e; cases e
    | some d => cases b : argDs g ms hs with
      | none => simp only [a, b] at e; cases e
      | some ds' =>
        simp only [a, b] at e
        cases e
        obtain ⟨l1, l2, k⟩ := argDs_get b
        refine ⟨by simp [l1], by simp [l2], fun p m' hp => ?_⟩
        cases p with
        | zero => simp at hp; subst hp; exact ⟨h, d, rfl, rfl, a⟩
        | succ p => exact k p m' (by simpa using hp)
  | [], _ :: _, _, e => by simp [argDs] at e
  | _ :: _, [], _, e => by simp [argDs] at e
theorem gOf_get : ∀ {ms : List Md} {ds : List D}, ds.length = ms.length → ∀ (p : Nat), (gOf ms ds)[p]? = (ms[p]?).bind fun m => (ds[p]?).map (slotOf m)
  | [], [], _, p => by simp [gOf]
  | m :: ms, d :: ds, l, p => by
    have l' : ds.length = ms.length := by simpa using l
    cases p with
    | zero => simp [gOf]
    | succ p => simp only [gOf, List.getElem?_cons_succ]; exact gOf_get l' p
  | [], _ :: _, l, _ => by simp at l
  | _ :: _, [], l, _ => by simp at l
theorem gOf_len : ∀ {ms : List Md} {ds : List D}, ds.length = ms.length → (gOf ms ds).length = ms.length
  | [], [], _ => rfl
  | m :: ms, d :: ds, l => by simp only [gOf, List.length_cons]; rw [gOf_len (by simpa using l)]
  | [], _ :: _, l => by simp at l
  | _ :: _, [], l => by simp at l
theorem HdsR.get {K : Frag} : ∀ {hs : List Hd} {vs : List V}, HdsR K F σ hs vs → hs.length = vs.length ∧ ∀ (p : Nat) (h : Hd), hs[p]? = some h → ∃ v, vs[p]? = some v ∧ HdR K F σ h v
  | _, _, .nil => ⟨rfl, fun p h e => by simp at e⟩
  | _, _, .cons r t => by
    obtain ⟨l, k⟩ := t.get
    refine ⟨by simp [l], fun p h e => ?_⟩
    cases p with
    | zero => simp at e; subst e; exact ⟨_, rfl, r⟩
    | succ p => exact k p h (by simpa using e)
theorem nmu_mem : ∀ {ms : List Md} {hs : List Hd} {p i : Nat}, ms[p]? = some .mu → hs[p]? = some (.nm i) → i ∈ nmu ms hs
  | [], _, p, i, h, _ => by simp at h
  | _ :: _, [], p, i, _, h => by simp at h
  | m :: ms, h :: hs, 0, i, e1, e2 => by
    simp at e1 e2; subst e1; subst e2; exact List.mem_cons_self
  | m :: ms, h :: hs, p + 1, i, e1, e2 => by
    have q := nmu_mem (ms := ms) (hs := hs) (p := p) (i := i) (by simpa using e1) (by simpa using e2)
    cases m <;> cases h <;> first | exact List.mem_cons_of_mem _ q | exact q
theorem apart_ok : ∀ {ms : List Md} {hs : List Hd}, apartB ms hs = true → ∀ (p q i : Nat), p ≠ q → ms[p]? = some Md.mu → hs[p]? = some (Hd.nm i) → hs[q]? = some (Hd.nm i) → False
  | [], _, _, p, q, i, _, h, _, _ => by simp at h
  | _ :: _, [], _, p, q, i, _, _, h, _ => by simp at h
  | m :: ms, h :: hs, a, p, q, i, pq, e1, e2, e3 => by
    have tail : apartB ms hs = true := by
      cases m <;> cases h <;> simp only [apartB, Bool.and_eq_true] at a <;> first | exact a.2 | exact a
    cases p with
    | zero =>
      cases q with
      | zero => exact pq rfl
      | succ q =>
        simp at e1 e2; subst e1; subst e2
        simp only [apartB, Bool.and_eq_true, Bool.not_eq_true'] at a
        have e3 : hs[q]? = some (.nm i) := by simpa using e3
        have : hs.any (Hd.isNm i) = true := List.any_eq_true.mpr ⟨_, List.mem_of_getElem? e3, by simp [Hd.isNm]⟩
        rw [a.1] at this; cases this
    | succ p =>
      have e1 : ms[p]? = some .mu := by simpa using e1
      have e2 : hs[p]? = some (.nm i) := by simpa using e2
      cases q with
      | zero =>
        simp at e3; subst e3
        have m1 := nmu_mem e1 e2
        cases m with
        | mu =>
          simp only [apartB, Bool.and_eq_true, Bool.not_eq_true'] at a
          have : hs.any (Hd.isNm i) = true := List.any_eq_true.mpr ⟨_, List.mem_of_getElem? e2, by simp [Hd.isNm]⟩
          rw [a.1] at this; cases this
        | im =>
          simp only [apartB, Bool.and_eq_true, Bool.not_eq_true'] at a
          have : (nmu ms hs).contains i = true := by simpa using m1
          rw [a.1] at this; cases this
        | ro =>
          simp only [apartB, Bool.and_eq_true, Bool.not_eq_true'] at a
          have : (nmu ms hs).contains i = true := by simpa using m1
          rw [a.1] at this; cases this
      | succ q => exact apart_ok tail p q i (fun z => pq (by rw [z])) e1 e2 (by simpa using e3)
/-- the callee's parameters -/
theorem callee_sta {K : Frag} {ms : List Md} {hs : List Hd} {ds : List D} {vs : List V} (S : Sta K F g σ H) (r : HdsR K F σ hs vs) (e : argDs g ms hs = some ds) (ap : apartB ms hs = true) :
    ds.length = ms.length ∧ vs.length = ms.length ∧ Sta K F (gOf ms ds) (vs.map some) H := by
  obtain ⟨l1, l2, k⟩ := argDs_get e
  obtain ⟨l3, kr⟩ := r.get
  have gp : ∀ (p : Nat) (t : Sl), (gOf ms ds)[p]? = some t → ∃ m h d v, ms[p]? = some m ∧ hs[p]? = some h ∧ vs[p]? = some v ∧ t = slotOf m d ∧ argD g m h = some d ∧ HdR K F σ h v := fun p t q => by
    rw [gOf_get l1] at q
    cases hm : ms[p]? with
    | none => rw [hm] at q; cases q
    | some m =>
      obtain ⟨h, d, e1, e2, e3⟩ := k p m hm
      rw [hm] at q
      have q : (ds[p]?).map (slotOf m) = some t := q
      rw [e2] at q; cases q
      obtain ⟨v, e4, e5⟩ := kr p h e1
      exact ⟨m, h, d, v, rfl, e1, e4, rfl, e3, e5⟩
  have sv : ∀ (p : Nat) (v : V), vs[p]? = some v → (vs.map some)[p]? = some (some v) := fun p v h => by rw [List.getElem?_map, h]; rfl
  have cellp : ∀ (p : Nat) (d : D), ((gOf ms ds)[p]?).bind Sl.cell = some d → ∃ (i : Nat) (a : Addr), ms[p]? = some Md.mu ∧ hs[p]? = some (Hd.nm i) ∧ (g[i]?).bind Sl.cell = some d ∧ (vs.map some)[p]? = some (some (V.ref a)) ∧ σ[i]? = some (some (V.ref a)) := fun p d c => by
    cases q : (gOf ms ds)[p]? with
    | none => rw [q] at c; cases c
    | some t =>
      rw [q] at c
      obtain ⟨m, h, d', v, e1, e2, e3, e4, e5, e6⟩ := gp p t q
      subst e4
      cases m with
      | im => cases c
      | ro => cases c
      | mu =>
        cases c
        cases h with
        | va _ => cases e5
        | nm i =>
          have e5 : (g[i]?).bind Sl.cell = some d := e5
          obtain ⟨a, ha, _⟩ := S.cell e5
          have e6 : σ[i]? = some (some v) := e6
          rw [ha] at e6; cases e6
          exact ⟨i, a, e1, e2, e5, sv p _ e3, ha⟩
  refine ⟨l1, by omega, S.sub, by rw [gOf_len l1, List.length_map]; omega, fun p t q => ?_, fun p q d e a b x pq c1 c2 e1 e2 f1 f2 => ?_, fun p d a e1 e2 => ?_, S.tb⟩
  · obtain ⟨m, h, d, v, e1, e2, e3, e4, e5, e6⟩ := gp p t q
    subst e4
    cases m with
    | im => cases h with
      | va d' => cases e5; exact ⟨v, sv p v e3, e6⟩
      | nm i => cases e5
    | ro => exact ⟨v, sv p v e3, HdR.rov S e6 e5⟩
    | mu => cases h with
      | va _ => cases e5
      | nm i =>
        have e5 : (g[i]?).bind Sl.cell = some d := e5
        obtain ⟨a, ha, c, n⟩ := S.cell e5
        have e6 : σ[i]? = some (some v) := e6
        rw [ha] at e6; cases e6
        exact ⟨a, sv p _ e3, c, n⟩
  · obtain ⟨i, a', m1, n1, k1, w1, z1⟩ := cellp p d c1
    obtain ⟨j, b', m2, n2, k2, w2, z2⟩ := cellp q e c2
    rw [e1] at w1; cases w1
    rw [e2] at w2; cases w2
    exact S.inj i j d e a b x (fun z => by subst z; exact apart_ok ap p q i pq m1 n1 n2) k1 k2 z1 z2 f1 f2
  · obtain ⟨m, h, d', v, h1, h2, h3, h4, h5, h6⟩ := gp p _ e1
    have hv := sv p v h3
    rw [e2] at hv; cases hv
    cases m with
    | im => cases h4
    | mu => cases h4
    | ro =>
      cases h4
      cases h with
      | va d2 => cases h5; exact .inl h6
      | nm i =>
        have h6 : σ[i]? = some (some (V.ref a)) := h6
        have h5 : Hd.rd g (.nm i) = some d := h5
        refine (Classical.em (Rep K F (.ref a) d)).imp id fun nr o => ?_
        obtain ⟨q, e, b, c, w, f⟩ := o
        obtain ⟨j, b', m1, n1, k1, w1, z1⟩ := cellp q e c
        rw [w] at w1; cases w1
        have ij : i ≠ j := fun z => by
          subst z
          refine apart_ok ap q p i (fun z => ?_) m1 n1 h2
          subst z; rw [h1] at m1; cases m1
        cases hs' : g[i]? with
        | none => simp only [Hd.rd, hs'] at h5; cases h5
        | some s =>
          have cell : ∀ d0, s.cell = some d0 → False := fun d0 hd0 => by
            obtain ⟨a', ha', _⟩ := S.cell (i := i) (d := d0) (by rw [hs']; exact hd0)
            rw [h6] at ha'; cases ha'
            exact S.inj i j d0 e a b a ij (by rw [hs']; exact hd0) k1 h6 z1 (.inl rfl) f
          cases s with
          | un => simp only [Hd.rd, hs'] at h5; cases h5
          | im d0 =>
            simp only [Hd.rd, hs'] at h5; cases h5
            obtain ⟨v0, w0, r0⟩ := S.slot i _ hs'
            rw [h6] at w0; cases w0
            exact nr r0
          | ro d0 =>
            simp only [Hd.rd, hs'] at h5; cases h5
            rcases S.ro i _ a hs' h6 with r | r
            · exact nr r
            · exact r ⟨j, e, b, k1, z1, f⟩
          | ow d0 => exact cell d0 rfl
          | mb d0 => exact cell d0 rfl
theorem putMu_ok : ∀ {ms : List Md} {hs : List Hd} {ds es : List D} {g g' : Gm}, ds.length = ms.length → putMu ms hs es g = some g' → apartB ms hs = true →
    g'.length = g.length ∧ ∀ (i : Nat), (∃ (p : Nat) (s : Sl) (e : D), (ms[p]? = some Md.mu ∧ hs[p]? = some (Hd.nm i)) ∧ g[i]? = some s ∧ (gAft ms ds es)[p]? = some (Sl.mb e) ∧ g'[i]? = some (s.put e)) ∨ ((∀ (p : Nat), ¬ (ms[p]? = some Md.mu ∧ hs[p]? = some (Hd.nm i))) ∧ g'[i]? = g[i]?)
  | [], [], [], _, g, g', _, h, _ => by
    simp only [putMu] at h; cases h
    exact ⟨rfl, fun i => .inr ⟨fun p h => by simp at h, rfl⟩⟩
  | [], _ :: _, _, _, _, _, _, h, _ => by simp [putMu] at h
  | m :: ms, hs, [], _, _, _, l, h, _ => by simp at l
  | [], _, _ :: _, _, _, _, l, h, _ => by simp at l
  | m :: ms, hs, d :: ds, es, g, g', l, h, ap => by
    have l' : ds.length = ms.length := by simpa using l
    cases hs with
    | nil => cases m <;> simp [putMu] at h
    | cons h0 hs =>
      have tail : apartB ms hs = true := by
        cases m <;> cases h0 <;> simp only [apartB, Bool.and_eq_true] at ap <;> first | exact ap.2 | exact ap
      have plain : m ≠ .mu → putMu ms hs es g = some g' → gAft (m :: ms) (d :: ds) es = slotOf m d :: gAft ms ds es → g'.length = g.length ∧ ∀ (i : Nat), (∃ (p : Nat) (s : Sl) (e : D), ((m :: ms)[p]? = some Md.mu ∧ (h0 :: hs)[p]? = some (Hd.nm i)) ∧ g[i]? = some s ∧ (gAft (m :: ms) (d :: ds) es)[p]? = some (Sl.mb e) ∧ g'[i]? = some (s.put e)) ∨ ((∀ (p : Nat), ¬ ((m :: ms)[p]? = some Md.mu ∧ (h0 :: hs)[p]? = some (Hd.nm i))) ∧ g'[i]? = g[i]?) := fun nm h e => by
        obtain ⟨l1, k⟩ := putMu_ok (ds := ds) l' h tail
        refine ⟨l1, fun i => ?_⟩
        rcases k i with ⟨p, s, e', z1, z2, z3, z4⟩ | ⟨z1, z2⟩
        · exact .inl ⟨p + 1, s, e', by simpa using z1, z2, by rw [e]; simpa using z3, z4⟩
        · refine .inr ⟨fun p q => ?_, z2⟩
          cases p with
          | zero => simp at q; exact nm q.1
          | succ p => exact z1 p (by simpa using q)
      cases m with
      | im => exact plain (by decide) (by simpa only [putMu] using h) rfl
      | ro => exact plain (by decide) (by simpa only [putMu] using h) rfl
      | mu =>
        cases h0 with
        | va _ => simp [putMu] at h
        | nm i0 =>
          cases es with
          | nil => simp [putMu] at h
          | cons e0 es =>
            simp only [putMu] at h
            cases hs0 : g[i0]? with
            | none => simp only [hs0] at h; cases h
            | some s0 =>
              simp only [hs0] at h
              obtain ⟨l1, k⟩ := putMu_ok (ds := ds) l' h tail
              have li : i0 < g.length := (List.getElem?_eq_some_iff.mp hs0).1
              refine ⟨by rw [l1, List.length_set], fun i => ?_⟩
              have ni : ∀ (p : Nat), ms[p]? = some Md.mu → hs[p]? = some (Hd.nm i0) → False := fun p e1 e2 => apart_ok ap (p + 1) 0 i0 (by omega) (by simpa using e1) (by simpa using e2) rfl
              by_cases ei : i = i0
              · subst ei
                rcases k i with ⟨p, s, e', z1, z2, z3, z4⟩ | ⟨z1, z2⟩
                · exact (ni p z1.1 z1.2).elim
                · refine .inl ⟨0, s0, e0, ⟨rfl, rfl⟩, hs0, rfl, ?_⟩
                  rw [z2, List.getElem?_set_self li]
              · have eg : (g.set i0 (s0.put e0))[i]? = g[i]? := List.getElem?_set_ne fun z => ei z.symm
                rcases k i with ⟨p, s, e', z1, z2, z3, z4⟩ | ⟨z1, z2⟩
                · exact .inl ⟨p + 1, s, e', by simpa using z1, by rw [← eg]; exact z2, by simpa [gAft] using z3, z4⟩
                · refine .inr ⟨fun p q => ?_, by rw [z2, eg]⟩
                  cases p with
                  | zero => simp at q; exact ei q.symm
                  | succ p => exact z1 p (by simpa using q)
theorem mFrzM_ok {R : List V → Hp → Prop} {ms : List Md} {hs : List Hd} {vs : List V} {F F0 H0 : Hp} {g g0 : Gm} (S : Sta X.K F g σ H) (P : Stp F0 H0 g0 σ F H g σ) (r : HdsR X.K F σ hs vs) (q : Pst X.K W σ (relA X.K) F0 H0 g0 R (mFrzM ms hs g)) : R vs H := by
  induction hs generalizing ms vs F F0 H0 g g0 R with
  | nil =>
    cases r
    have e : mFrzM ms [] g = some (.ok [] g) := by
      cases ms with
      | nil => rfl
      | cons m ms => cases m <;> rfl
    rw [e] at q
    exact q [] F H S P .nil
  | cons h hs ih =>
    cases r with
    | cons r rs =>
      rename_i v vs
      have keep : ∀ {ms : List Md}, Pst X.K W σ (relA X.K) F0 H0 g0 R (((mFrzM ms hs).bind fun hs' => M.ret (h :: hs')) g) → R (v :: vs) H := fun {ms} q =>
        ih (R := fun ws H' => R (v :: ws) H') S Stp.refl rs (Pst_bind P q fun hs' ws F2 H2 g2 S2 P2 P02 r2 q2 => q2 _ F2 H2 S2 P02 (.cons (HdR.mono P2.fg r) r2))
      cases ms with
      | nil => exact q.elim
      | cons m ms => cases m with
        | ro => exact keep q
        | mu => exact keep q
        | im =>
          have q2 : Pst X.K W σ (relE X.K) F H g (fun v' H' => v' = v → H' = H → R (v :: vs) H) (mFrz h g) := Pst_bind P q fun d v' F1 H1 g1 S1 P1 P01 r1 q1 => by
            intro ev eh
            subst ev
            subst eh
            exact ih (R := fun ws H' => R (v' :: ws) H') S1 Stp.refl (HdsR.mono P1.fg rs) (Pst_bind P01 q1 fun hs' ws F2 H2 g2 S2 P2 P02 r2 q2 => q2 _ F2 H2 S2 P02 (.cons (show HdR X.K F2 σ (.va d) v' from Rep.mono P2.fg r1) r2))
          exact mFrz_ok S Stp.refl r q2 rfl rfl
/-! ### calls -/
def mCallF (ms : List Md) (f : Fn) (hs : List Hd) : M D := (mFrzM ms hs).bind fun hs => fun g => match argDs g ms hs, apartB ms hs with
  | some ds, true => (match f ds with
    | some (.ret d es) => (match putMu ms hs es g with
      | some g' => some (.ok d g')
      | none => none)
    | some (.exc c es) => (match putMu ms hs es g with
      | some g' => some (.ex c g')
      | none => none)
    | _ => none)
  | _, _ => none
def mCallN (ms : List Md) (f : Fn) (hs : List Hd) : M D := (mFrzM ms hs).bind fun hs => fun g => match argDs g ms hs, apartB ms hs with
  | some ds, true => (match f ds with
    | some (.new d es) => (match putMu ms hs es g with
      | some g' => some (.ok d g')
      | none => none)
    | some (.exc c es) => (match putMu ms hs es g with
      | some g' => some (.ex c g')
      | none => none)
    | _ => none)
  | _, _ => none
theorem call_back {ms : List Md} {hs : List Hd} {ds es : List D} {vs : List V} {F' H' : Hp} {g' : Gm} (S : Sta X.K F g σ H) (r : HdsR X.K F σ hs vs) (e : argDs g ms hs = some ds) (ap : apartB ms hs = true) (pm : putMu ms hs es g = some g')
    (S' : Sta X.K F' (gAft ms ds es) (vs.map some) H') (P : Stp F H (gOf ms ds) (vs.map some) F' H' (gAft ms ds es) (vs.map some)) : Sta X.K F' g' σ H' ∧ Stp F H g σ F' H' g' σ ∧ ∀ x, Own g' σ H' x → Own (gAft ms ds es) (vs.map some) H' x ∨ Own g σ H x := by
  obtain ⟨l1, l2, k⟩ := argDs_get e
  obtain ⟨l3, kr⟩ := r.get
  obtain ⟨n1, n2⟩ := putMu_ok (ds := ds) l1 pm ap
  refine Sta.called S P S' (fun p i => ms[p]? = some .mu ∧ hs[p]? = some (.nm i)) (fun p i ⟨h1, h2⟩ => ?_) (fun p d c => ?_) (fun p i j h1 h2 => ?_) n1 n2
  · obtain ⟨h, d, e1, e2, e3⟩ := k p _ h1
    rw [h2] at e1; cases e1
    obtain ⟨v, e4, e5⟩ := kr p _ h2
    exact ⟨by rw [List.getElem?_map, e4]; exact (show σ[i]? = some (some v) from e5).symm, d, e3⟩
  · rw [gOf_get l1] at c
    cases hm : ms[p]? with
    | none => rw [hm] at c; cases c
    | some m =>
      obtain ⟨h, d', e1, e2, e3⟩ := k p m hm
      rw [hm] at c
      have c : ((ds[p]?).map (slotOf m)).bind Sl.cell = some d := c
      rw [e2] at c
      cases m with
      | im => cases c
      | ro => cases c
      | mu => cases h with
        | va _ => cases e3
        | nm i => exact ⟨i, rfl, e1⟩
  · have := h1.2.symm.trans h2.2
    cases this; rfl
theorem callF_ok {ms : List Md} {f : Fn} {hs : List Hd} {vs : List V} {Q : VK} (S : Sta X.K F g σ H) (P0 : Stp F0 H0 g0 σ F H g σ) (r : HdsR X.K F σ hs vs) (q : Pst X.K W σ (relE X.K) F0 H0 g0 Q (mCallF ms f hs g)) : spF X.K ms f vs H Q (WE W σ) := by
  refine mFrzM_ok (W := W) (ms := ms) (R := fun vs H => spF X.K ms f vs H Q (WE W σ)) S Stp.refl r (Pst_bind P0 q fun hs vs F1 H1 g1 S1 P1 P01 r1 q1 => ?_)
  cases e : argDs g1 ms hs with
  | none => simp only [e] at q1; exact q1.elim
  | some ds =>
    cases ap : apartB ms hs with
    | false => simp only [e, ap] at q1; exact q1.elim
    | true =>
      simp only [e, ap] at q1
      obtain ⟨l1, l2, Sp⟩ := callee_sta S1 r1 e ap
      refine ⟨F1, ds, l1, l2, Sp, ?_⟩
      cases hf : f ds with
      | none => simp only [hf] at q1; exact q1.elim
      | some fr =>
        cases fr with
        | new d es => simp only [hf] at q1; exact q1.elim
        | ret d es =>
          simp only [hf] at q1
          cases pm : putMu ms hs es g1 with
          | none => simp only [pm] at q1; exact q1.elim
          | some g2 =>
            simp only [pm] at q1
            intro v F' H' S' P' rv
            obtain ⟨S2, P2, O2⟩ := call_back S1 r1 e ap pm S' P'
            exact q1 v F' H' S2 (P01.trans P2) rv
        | exc c es =>
          simp only [hf] at q1
          cases pm : putMu ms hs es g1 with
          | none => simp only [pm] at q1; exact q1.elim
          | some g2 =>
            simp only [pm] at q1
            intro F' H' S' P'
            obtain ⟨S2, P2, O2⟩ := call_back S1 r1 e ap pm S' P'
            exact q1 F' H' S2 (P01.trans P2)
theorem callN_ok {ms : List Md} {f : Fn} {hs : List Hd} {vs : List V} {Q : VK} (S : Sta X.K F g σ H) (P0 : Stp F0 H0 g0 σ F H g σ) (r : HdsR X.K F σ hs vs) (q : Pst X.K W σ (relN X.K) F0 H0 g0 Q (mCallN ms f hs g)) : spF X.K ms f vs H Q (WE W σ) := by
  refine mFrzM_ok (W := W) (ms := ms) (R := fun vs H => spF X.K ms f vs H Q (WE W σ)) S Stp.refl r (Pst_bind P0 q fun hs vs F1 H1 g1 S1 P1 P01 r1 q1 => ?_)
  cases e : argDs g1 ms hs with
  | none => simp only [e] at q1; exact q1.elim
  | some ds =>
    cases ap : apartB ms hs with
    | false => simp only [e, ap] at q1; exact q1.elim
    | true =>
      simp only [e, ap] at q1
      obtain ⟨l1, l2, Sp⟩ := callee_sta S1 r1 e ap
      refine ⟨F1, ds, l1, l2, Sp, ?_⟩
      cases hf : f ds with
      | none => simp only [hf] at q1; exact q1.elim
      | some fr =>
        cases fr with
        | ret d es => simp only [hf] at q1; exact q1.elim
        | new d es =>
          simp only [hf] at q1
          cases pm : putMu ms hs es g1 with
          | none => simp only [pm] at q1; exact q1.elim
          | some g2 =>
            simp only [pm] at q1
            intro a F' H' S' P' c n
            obtain ⟨S2, P2, O2⟩ := call_back S1 r1 e ap pm S' P'
            refine q1 _ F' H' S2 (P01.trans P2) ⟨a, rfl, c, fun x fx => ⟨(n x fx).1, fun o => ?_, Classical.byContradiction fun h0 => P01.st x h0 (n x fx).2.2⟩⟩
            rcases O2 x o with o' | o'
            · exact (n x fx).2.1 o'
            · obtain ⟨u, hu⟩ := S1.own_at o'
              rw [(n x fx).2.2] at hu; cases hu
        | exc c es =>
          simp only [hf] at q1
          cases pm : putMu ms hs es g1 with
          | none => simp only [pm] at q1; exact q1.elim
          | some g2 =>
            simp only [pm] at q1
            intro F' H' S' P'
            obtain ⟨S2, P2, O2⟩ := call_back S1 r1 e ap pm S' P'
            exact q1 F' H' S2 (P01.trans P2)
end
end Cq

set_option Elab.async false
set_option linter.all false
set_option maxRecDepth 100000
namespace Cq
open PySem PySem.Spec PyProof.Rows L2
/-! ### a def's meaning: its body's -/
def endMs : List Md → Gm → Option (List D)
  | [], _ => some []
  | .mu :: ms, .mb e :: g => (match endMs ms g with
    | some es => some (e :: es)
    | none => none)
  | .mu :: _, _ => none
  | _ :: ms, _ :: g => endMs ms g
  | _ :: _, [] => none
def runDef (ms : List Md) (n : Nat) (m : M Fl) : Fn := fun ds => match m (gOf ms ds ++ List.replicate (n - ms.length) .un) with
  | some (.ok (.rt d) g) => (match endMs ms g with
    | some es => some (.ret d es)
    | none => none)
  | some (.ok (.rn d) g) => (match endMs ms g with
    | some es => some (.new d es)
    | none => none)
  | some (.ok .nx g) => (match endMs ms g with
    | some es => some (.ret .non es)
    | none => none)
  | some (.ex c g) => (match endMs ms g with
    | some es => some (.exc c es)
    | none => none)
  | _ => none
section
variable {K : Frag} {σ : L2.St} {F H F' H' : Hp} {g g' : Gm}
theorem endMs_get : ∀ {ms : List Md} {g : Gm} {es : List D} {ds : List D}, ds.length = ms.length → endMs ms g = some es → (gAft ms ds es).length = ms.length ∧ ∀ (p : Nat) (m : Md) (d : D), ms[p]? = some m → ds[p]? = some d → (m = .mu ∧ ∃ e, (gAft ms ds es)[p]? = some (.mb e) ∧ g[p]? = some (.mb e)) ∨ (m ≠ .mu ∧ (gAft ms ds es)[p]? = some (slotOf m d))
  | [], _, _, [], _, h => ⟨rfl, fun p m d h => by simp at h⟩
  | [], _, _, _ :: _, l, _ => by simp at l
  | _ :: _, _, _, [], l, _ => by simp at l
  | m :: ms, g, es, d :: ds, l, h => by
    have l' : ds.length = ms.length := by simpa using l
    have plain : ∀ (s : Sl) (g0 : Gm), m ≠ .mu → g = s :: g0 → endMs ms g0 = some es → gAft (m :: ms) (d :: ds) es = slotOf m d :: gAft ms ds es → _ := fun s g0 nm eg he ea => by
      obtain ⟨l1, k⟩ := endMs_get (ds := ds) l' he
      show (gAft (m :: ms) (d :: ds) es).length = (m :: ms).length ∧ ∀ (p : Nat) (m' : Md) (d' : D), (m :: ms)[p]? = some m' → (d :: ds)[p]? = some d' → (m' = .mu ∧ ∃ e, (gAft (m :: ms) (d :: ds) es)[p]? = some (.mb e) ∧ g[p]? = some (.mb e)) ∨ (m' ≠ .mu ∧ (gAft (m :: ms) (d :: ds) es)[p]? = some (slotOf m' d'))
      rw [ea, eg]
      refine ⟨by simp [l1], fun p m' d' h1 h2 => ?_⟩
      cases p with
      | zero => simp at h1 h2; subst h1; subst h2; exact .inr ⟨nm, rfl⟩
      | succ p => simpa using k p m' d' (by simpa using h1) (by simpa using h2)
    cases m with
    | im => cases g with
      | nil => simp [endMs] at h
      | cons s g0 => exact plain s g0 (by decide) rfl (by simpa only [endMs] using h) rfl
    | ro => cases g with
      | nil => simp [endMs] at h
      | cons s g0 => exact plain s g0 (by decide) rfl (by simpa only [endMs] using h) rfl
    | mu => cases g with
      | nil => simp [endMs] at h
      | cons s g0 => cases s with
        | mb e =>
          simp only [endMs] at h
          cases q : endMs ms g0 with
          | none => simp only [q] at h; cases h
          | some es' =>
            simp only [q] at h
            cases h
            obtain ⟨l1, k⟩ := endMs_get (ds := ds) l' q
            refine ⟨by simp [gAft, l1], fun p m' d' h1 h2 => ?_⟩
            cases p with
            | zero => simp at h1 h2; subst h1; subst h2; exact .inl ⟨rfl, e, rfl, rfl⟩
            | succ p => simpa [gAft] using k p m' d' (by simpa using h1) (by simpa using h2)
        | un => simp [endMs] at h
        | im _ => simp [endMs] at h
        | ro _ => simp [endMs] at h
        | ow _ => simp [endMs] at h
theorem ext_get {n j : Nat} {s : Sl} (h : (g ++ List.replicate n .un)[j]? = some s) : (g[j]? = some s) ∨ (s = .un ∧ g[j]? = none) := by
  by_cases l : j < g.length
  · rw [List.getElem?_append_left l] at h; exact .inl h
  · rw [List.getElem?_append_right (by omega), List.getElem?_replicate] at h
    split at h
    · cases h; exact .inr ⟨rfl, List.getElem?_eq_none (by omega)⟩
    · cases h
theorem ext_cell {n j : Nat} {d : D} (h : ((g ++ List.replicate n .un)[j]?).bind Sl.cell = some d) : (g[j]?).bind Sl.cell = some d := by
  cases q : (g ++ List.replicate n .un)[j]? with
  | none => rw [q] at h; cases h
  | some s =>
    rw [q] at h
    rcases ext_get q with e | ⟨e, _⟩
    · rw [e]; exact h
    · subst e; cases h
theorem sext {n k j : Nat} {d : Sl} (l : g.length = σ.length) (h : g[j]? = some d) : (σ ++ List.replicate k none)[j]? = σ[j]? := by
  have : j < σ.length := by rw [← l]; exact (List.getElem?_eq_some_iff.mp h).1
  exact List.getElem?_append_left this
theorem sext' {k j : Nat} {d : D} (l : g.length = σ.length) (h : (g[j]?).bind Sl.cell = some d) : (σ ++ List.replicate k none)[j]? = σ[j]? := by
  cases q : g[j]? with
  | none => rw [q] at h; cases h
  | some s => exact sext (n := 0) l q
theorem own_ext {n k : Nat} (S : Sta K F g σ H) {x : Addr} (o : Own (g ++ List.replicate n .un) (σ ++ List.replicate k none) H x) : Own g σ H x := by
  obtain ⟨i, d, a, c, e, f⟩ := o
  have c' := ext_cell c
  rw [sext' S.len c'] at e
  exact ⟨i, d, a, c', e, f⟩
theorem Sta.ext {n : Nat} (S : Sta K F g σ H) : Sta K F (g ++ List.replicate n .un) (σ ++ List.replicate n none) H := by
  refine ⟨S.sub, by simp [S.len], fun j s e => ?_, fun i j d e a b x ij c1 c2 e1 e2 => ?_, fun i d a e1 e2 => ?_, S.tb⟩
  · rcases ext_get e with q | ⟨q, _⟩
    · rw [sext (n := 0) S.len q]; exact S.slot j s q
    · subst q; trivial
  · have c1' := ext_cell c1
    have c2' := ext_cell c2
    rw [sext' S.len c1'] at e1
    rw [sext' S.len c2'] at e2
    exact S.inj i j d e a b x ij c1' c2' e1 e2
  · rcases ext_get e1 with q | ⟨q, _⟩
    · rw [sext (n := 0) S.len q] at e2
      exact (S.ro i d a q e2).imp id fun r o => r (own_ext S o)
    · cases q
/-- from the body's end back to the parameters -/
theorem def_end {ms : List Md} {ds es : List D} {vs : List V} {n : Nat} {σ' : L2.St} (l1 : ds.length = ms.length) (l2 : vs.length = ms.length) (S : Sta K F (gOf ms ds) (vs.map some) H) (S' : Sta K F' g' σ' H')
    (P : Stp F H (gOf ms ds ++ List.replicate n .un) (vs.map some ++ List.replicate n none) F' H' g' σ') (he : endMs ms g' = some es) :
    Sta K F' (gAft ms ds es) (vs.map some) H' ∧ Stp F H (gOf ms ds) (vs.map some) F' H' (gAft ms ds es) (vs.map some) ∧ (∀ x, Own (gAft ms ds es) (vs.map some) H' x → ∃ (i : Nat) (d : D) (b : Addr), g'[i]? = some (Sl.mb d) ∧ σ'[i]? = some (some (V.ref b)) ∧ Foot H' b x)
      ∧ (∀ x, Own (gOf ms ds) (vs.map some) H x → ∃ (i : Nat) (d : D) (b : Addr), g'[i]? = some (Sl.mb d) ∧ σ'[i]? = some (some (V.ref b)) ∧ Foot H' b x) := by
  obtain ⟨la, k⟩ := endMs_get l1 he
  have lg := gOf_len l1
  -- places
  have pl : ∀ (p : Nat) (s : Sl), (gAft ms ds es)[p]? = some s → ∃ m d, ms[p]? = some m ∧ ds[p]? = some d ∧ (gOf ms ds)[p]? = some (slotOf m d) := fun p s h => by
    have hp : p < ms.length := by rw [← la]; exact (List.getElem?_eq_some_iff.mp h).1
    have h1 : ms[p]? = some ms[p] := List.getElem?_eq_getElem hp
    have h2 : ds[p]? = some (ds[p]'(by omega)) := List.getElem?_eq_getElem (by omega)
    exact ⟨_, _, h1, h2, by rw [gOf_get l1, h1]; simp [h2]⟩
  have mus : ∀ (p : Nat) (d : D), ((gAft ms ds es)[p]?).bind Sl.cell = some d → ms[p]? = some Md.mu ∧ (gAft ms ds es)[p]? = some (Sl.mb d) ∧ g'[p]? = some (Sl.mb d) ∧ σ'[p]? = (vs.map some)[p]? ∧ ∃ d0, (gOf ms ds)[p]? = some (slotOf Md.mu d0) := fun p d c => by
    cases q : (gAft ms ds es)[p]? with
    | none => rw [q] at c; cases c
    | some s =>
      obtain ⟨m, d0, e1, e2, e3⟩ := pl p s q
      rcases k p m d0 e1 e2 with ⟨rfl, e, h1, h2⟩ | ⟨h1, h2⟩
      · rw [q] at h1; cases h1
        rw [q] at c; cases c
        obtain ⟨_, h4⟩ := P.kmb p _ h2
        rw [sext (n := 0) S.len e3] at h4
        exact ⟨e1, rfl, h2, h4, d0, e3⟩
      · rw [q] at h2; cases h2
        rw [q] at c
        cases m with
        | mu => exact absurd rfl h1
        | im => cases c
        | ro => cases c
  have noww : ∀ (p : Nat) (d : D), (gAft ms ds es)[p]? = some (Sl.ow d) → False := fun p d h => by
    obtain ⟨m, d0, e1, e2, e3⟩ := pl p _ h
    rcases k p m d0 e1 e2 with ⟨rfl, e, h1, h2⟩ | ⟨h1, h2⟩
    · rw [h] at h1; cases h1
    · rw [h] at h2; cases m <;> cases h2
  have own1 : ∀ x, Own (gAft ms ds es) (vs.map some) H' x → ∃ (i : Nat) (d : D) (b : Addr), g'[i]? = some (Sl.mb d) ∧ σ'[i]? = some (some (V.ref b)) ∧ Foot H' b x := fun x ⟨p, d, a, c, e, f⟩ => by
    obtain ⟨_, _, h3, h4, _⟩ := mus p d c
    exact ⟨p, d, a, h3, by rw [h4]; exact e, f⟩
  have own1' : ∀ x, Own (gAft ms ds es) (vs.map some) H' x → Own g' σ' H' x := fun x o => let ⟨i, d, b, h1, h2, h3⟩ := own1 x o; ⟨i, d, b, by rw [h1]; rfl, h2, h3⟩
  have own2 : ∀ x, Own (gOf ms ds) (vs.map some) H x → ∃ (i : Nat) (d : D) (b : Addr), g'[i]? = some (Sl.mb d) ∧ σ'[i]? = some (some (V.ref b)) ∧ Foot H' b x := fun x ⟨p, d, a, c, e, f⟩ => by
    cases q : (gOf ms ds)[p]? with
    | none => rw [q] at c; cases c
    | some s =>
      have hp : p < ms.length := by rw [← lg]; exact (List.getElem?_eq_some_iff.mp q).1
      have h1 : ms[p]? = some ms[p] := List.getElem?_eq_getElem hp
      have h2 : ds[p]? = some (ds[p]'(by omega)) := List.getElem?_eq_getElem (by omega)
      have q' := q
      rw [gOf_get l1, h1] at q'
      have q' : (ds[p]?).map (slotOf ms[p]) = some s := q'
      rw [h2] at q'
      have es : s = slotOf ms[p] (ds[p]'(by omega)) := (Option.some.inj q').symm
      rw [q] at c
      rcases k p _ _ h1 h2 with ⟨hm, e', z1, z2⟩ | ⟨hm, _⟩
      · obtain ⟨_, h4⟩ := P.kmb p _ z2
        rw [sext (n := 0) S.len q] at h4
        refine ⟨p, e', a, z2, by rw [h4]; exact e, ?_⟩
        rcases f with f | ⟨C, fv, f⟩
        · exact .inl f
        · obtain ⟨fv', z⟩ := P.ki _ _ _ _ f
          exact .inr ⟨C, fv', z⟩
      · rw [es] at c
        cases hmm : ms[p] with
        | mu => exact absurd hmm hm
        | im => rw [hmm] at c; cases c
        | ro => rw [hmm] at c; cases c
  refine ⟨⟨S'.sub, by rw [la, List.length_map, l2], fun p s h => ?_, fun i j d e a b x ij c1 c2 e1 e2 f1 f2 => ?_, fun i d a e1 e2 => ?_, S'.tb⟩, ⟨P.fg, P.st, fun x o h1 nb h2 h3 => P.fr x o h1 nb h2 fun ow => h3 (own_ext S ow), fun x o => ?_, fun i d h => ?_, fun i d h => ?_, P.ki⟩, own1, own2⟩
  · obtain ⟨m, d0, e1, e2, e3⟩ := pl p s h
    rcases k p m d0 e1 e2 with ⟨rfl, e, h1, h2⟩ | ⟨h1, h2⟩
    · rw [h] at h1; cases h1
      obtain ⟨_, _, _, h4, _⟩ := mus p e (by rw [h]; rfl)
      have z := S'.slot p _ h2
      rw [h4] at z; exact z
    · rw [h] at h2; cases h2
      have z := S.slot p _ e3
      cases m with
      | mu => exact absurd rfl h1
      | im => obtain ⟨v, w, r⟩ := z; exact ⟨v, w, r.mono P.fg⟩
      | ro =>
        obtain ⟨v, w, r⟩ := z
        refine ⟨v, w, ?_⟩
        rcases r with r | ⟨a, rfl, c, n⟩
        · exact .inl (r.mono P.fg)
        · rcases S.ro p d0 a e3 w with r | r
          · exact .inl (r.mono P.fg)
          · obtain ⟨u, hu⟩ := c.at
            have same : H' a = some u := by
              cases hf : F a with
              | none => exact (P.fr a u hu (c.dt (.inl rfl) hu).1 (fun _ => hf) fun ow => r (own_ext S ow)).1
              | some o =>
                have := S.sub _ _ hf
                rw [hu] at this; cases this
                exact S'.sub _ _ (P.fg _ _ hf)
            exact .inr ⟨a, rfl, c.same P.fg fun x o f hx => by
              cases n x f
              rw [hu] at hx; cases hx; exact same, fun x f => n x (f.same hu (by rw [same, hu]))⟩
  · obtain ⟨_, _, h3, h4, _⟩ := mus i d c1
    obtain ⟨_, _, h5, h6, _⟩ := mus j e c2
    exact S'.inj i j d e a b x ij (by rw [h3]; rfl) (by rw [h5]; rfl) (by rw [h4]; exact e1) (by rw [h6]; exact e2) f1 f2
  · obtain ⟨m, d0, z1, z2, z3⟩ := pl i _ e1
    rcases k i m d0 z1 z2 with ⟨rfl, e, h1, h2⟩ | ⟨h1, h2⟩
    · rw [e1] at h1; cases h1
    · rw [e1] at h2
      cases m with
      | im => cases h2
      | mu => cases h2
      | ro =>
        cases h2
        refine (Classical.em (Rep K F' (.ref a) d)).imp id fun nr ow => ?_
        rcases S.ro i d a z3 e2 with r | r
        · exact nr (r.mono P.fg)
        · rcases P.own a (own1' a ow) with o | o
          · exact r (own_ext S o)
          · obtain ⟨v, w, rv⟩ := S.slot i _ z3
            rw [e2] at w; cases w
            rcases rv with rv | ⟨_, z, c, _⟩
            · exact nr (rv.mono P.fg)
            · cases z
              obtain ⟨u, hu⟩ := c.at
              rw [o] at hu; cases hu
  · rcases P.own x (own1' x o) with o | o
    · exact .inl (own_ext S o)
    · exact .inr o
  · obtain ⟨m, d0, z1, z2, z3⟩ := pl i _ h
    rcases k i m d0 z1 z2 with ⟨rfl, e, h1, h2⟩ | ⟨h1, h2⟩
    · rw [h] at h1; cases h1
    · rw [h] at h2
      cases m with
      | im => cases h2
      | mu => cases h2
      | ro => cases h2; exact ⟨z3, rfl⟩
  · obtain ⟨_, _, _, _, d0, h5⟩ := mus i d (by rw [h]; rfl)
    exact ⟨⟨d0, h5⟩, rfl⟩
end
/-- the reading of a body at its parameters -/
theorem def_reads {K : Frag} {W : WX} {E : XK} {ms : List Md} {n : Nat} {m : M Fl} {vs : List V} {H : Hp} {Q : VK} (hW : ∀ cls σ H, E cls none H → W cls none σ H) (h : spF K ms (runDef ms n m) vs H Q E) :
    tS K W m { nx := fun _ H' => Q .non H', rt := Q } (vs.map some ++ List.replicate (n - ms.length) none) H := by
  obtain ⟨F, ds, l1, l2, S, h⟩ := h
  refine ⟨F, _, S.ext, ?_⟩
  unfold runDef at h
  cases o : m (gOf ms ds ++ List.replicate (n - ms.length) .un) with
  | none => simp only [o] at h
  | some r => cases r with
    | ex c g =>
      simp only [o] at h
      cases he : endMs ms g with
      | none => simp only [he] at h
      | some es =>
        simp only [he] at h
        intro F' σ' H' S' P'
        obtain ⟨z1, z2, _, _⟩ := def_end l1 l2 S S' P' he
        exact hW _ _ _ (h F' H' z1 z2)
    | ok f g =>
      cases f with
      | bk => simp only [o] at h
      | ct => simp only [o] at h
      | nx =>
        simp only [o] at h
        cases he : endMs ms g with
        | none => simp only [he] at h
        | some es =>
          simp only [he] at h
          intro F' σ' H' S' P'
          obtain ⟨z1, z2, _, _⟩ := def_end l1 l2 S S' P' he
          exact h _ F' H' z1 z2 .non
      | rt d =>
        simp only [o] at h
        cases he : endMs ms g with
        | none => simp only [he] at h
        | some es =>
          simp only [he] at h
          intro v F' σ' H' S' P' r
          obtain ⟨z1, z2, _, _⟩ := def_end l1 l2 S S' P' he
          exact h v F' H' z1 z2 r
      | rn d =>
        simp only [o] at h
        cases he : endMs ms g with
        | none => simp only [he] at h
        | some es =>
          simp only [he] at h
          intro v F' σ' H' S' P' ⟨a, ev, c, k⟩
          subst ev
          obtain ⟨z1, z2, z3, z4⟩ := def_end l1 l2 S S' P' he
          refine h a F' H' z1 z2 c fun x fx => ?_
          obtain ⟨k1, k2, k3⟩ := k x fx
          refine ⟨k1, fun ow => ?_, ?_⟩
          · obtain ⟨i, d', b, w1, w2, w3⟩ := z3 x ow
            exact k3 i d' w1 b w2 w3
          · rcases k2 with k2 | k2
            · obtain ⟨i, d', b, w1, w2, w3⟩ := z4 x (own_ext S k2)
              exact (k3 i d' w1 b w2 w3).elim
            · exact k2
end Cq

set_option Elab.async false
set_option linter.all false
set_option maxRecDepth 100000
namespace Cq
open PySem PySem.Spec PyProof.Rows L2
/-- the wish of a def's body: what its caller wants of an exception -/
abbrev wE (E : XK) : WX := fun cls d _ H => E cls d H
section
variable {P : Program} {w : World} {K : Frag} {mg : Str → Option Value} {base : Heap} {x qual : Str} {params : Arguments} {body : List Stmt} {scope : Scope} {f : Addr} {fd : FuncData}
/-- a def of the text keeps its contract -/
theorem fnr {k : Nat} {N ps : List Str} {ms : List Md} {m : M Fl} (F : FunD K x qual params body scope [] [] f fd) (S : FnScope N ps scope) (hl : ms.length = ps.length)
    (hb : ∀ (kV doc pm : Value) (an : Option Addr) (cdv ct : Value) (us : List Value), us.length = ps.length → bindArgs (PySem.W.fnOf x qual params body scope .none kV doc pm an cdv ct) ⟨us, []⟩ = pure (ps.zip us))
    (hbody : ∀ (cdv : Value) (A : Around) (outer : List PySem.Env) (s : Shared) (H : Hp) (E : XK), Room k (A.deeper (envOfC qual scope s.heap.objs.size f cdv)) → Takes (cxOf (L2.CX P w) P w K mg base N qual scope f cdv A outer s H E) (wE E) →
      PassesOwn (model P w) (A.deeper (envOfC qual scope s.heap.objs.size f cdv)) (envOfC qual scope s.heap.objs.size f cdv) (cxOf (L2.CX P w) P w K mg base N qual scope f cdv A outer s H E).xe →
      SSs (cxOf (L2.CX P w) P w K mg base N qual scope f cdv A outer s H E) (wE E) body m) :
    FnR P w K mg base (L2.CX P w) (k + 1) f (spF K ms (runDef ms N.length m)) := by
  have len : ∀ vs H Q E, spF K ms (runDef ms N.length m) vs H Q E → vs.length = ps.length := fun vs H Q E ⟨_, _, _, l, _⟩ => l.trans hl
  have G : FnOk P w K mg base (L2.CX P w) (k + 1) f fd ps (spF K ms (runDef ms N.length m)) := by
    refine F.ok S len fun cdv A outer s H vs Q E hr h => ⟨_, hbody cdv A outer s H E hr (takes_of rfl rfl rfl rfl) (passes_of rfl), ?_⟩
    have e : start N vs = vs.map some ++ List.replicate (N.length - ms.length) none := by
      unfold L2.start
      rw [len _ _ _ _ h, hl]
    rw [e]
    exact def_reads (fun _ _ _ z => z) h
  exact (G.raw (F.bindsN hb) .nil).imp fun vs H Q E h => by rw [List.append_nil]; exact h
end
/-! ### calls by value -/
def CalR (X : Cx) (W : WX) (u : Value) (sp : Sp) : Prop := ∀ (pins : List (Addr × Obj)) (s : Shared) (σ : L2.St) (H : Hp) (us : List Value) (vs : List V) (Q : VK), Inv X pins σ H s → Vals vs us → sp vs H Q (WE W σ) →
  wpAny (model X.prog X.w) X.A (call u us) (EP X pins σ Q) X.xe s
section
variable {X : Cx} {W : WX} {pos p : Pos} {σ : L2.St} {F H F0 H0 : Hp} {g g0 : Gm} {e : Expr} {es : List Expr} {x : Str} {u : Value}
theorem calR_fn {k : Nat} {f : Addr} {sp : Sp} (F : FnR X.prog X.w X.K X.mg X.base (L2.CX X.prog X.w) k f sp) (hr : Room k X.A) (tk : Takes X W) : CalR X W (.ref f) sp := by
  intro pins s σ H us vs Q I r h
  refine wpAny_call (codeAny_mono (F X.A X.stack s H us vs Q (WE W σ) hr I.env0 r h) fun r s' hq => ?_)
  cases r with
  | error e => exact passAt tk σ pins H s e s' I hq
  | ok fl =>
    cases fl with
    | ret u => exact I.after hq
    | next => exact False.elim hq
    | brk => exact False.elim hq
    | cont => exact False.elim hq
theorem pe_calR {sp : Sp} {t : TA} (C : CalR X W u sp) (hg : Gl X x) (hm : X.mg x = some u) (hk : PySem.W.keepIn X.K u = true) (ha : PA X (e :: es) t) (hdb : (x == ("__debug__" : Str)) = false := by decide)
    (he : starEach (e :: es) X.env = (false, eval e X.env) :: starEach es X.env := by rfl) (hpl : (backTo pos (starEach es X.env)).any (·.1) = false := by rfl) :
    PE X (.Call (.Name x p) (e :: es) [] pos) (fun σ H Q => t σ H fun vs H1 => sp vs H1 Q (WE W σ)) := by
  refine ⟨fun pins s σ H Q I h => ?_⟩
  refine wpAny_Call_Name_kw (ld_glob I hg hm ?_ hdb)
  refine PySem.W.callWith_K (h₀ := X.base) I.ok.mod.kin hk (thn (ha.run pos pins s σ H _ I h) fun us s1 ⟨vs, H1, I1, r, q⟩ => ⟨I1.kIn, ?_⟩) he hpl
  exact C pins s1 σ H1 us vs Q I1 r q
theorem pe_calR0 {sp : Sp} (C : CalR X W u sp) (hg : Gl X x) (hm : X.mg x = some u) (hk : PySem.W.keepIn X.K u = true) (hdb : (x == ("__debug__" : Str)) = false := by decide) :
    PE X (.Call (.Name x p) [] [] pos) (fun σ H Q => sp [] H Q (WE W σ)) := by
  refine ⟨fun pins s σ H Q I h => ?_⟩
  refine wpAny_Call_Name_kw (ld_glob I hg hm ?_ hdb)
  exact PySem.W.callWith_K0 I.kIn hk (C pins s σ H [] [] Q I .nil h)
theorem se_call {ms : List Md} {f : Fn} {ma : M (List Hd)} (C : CalR X W u (spF X.K ms f)) (hg : Gl X x) (hm : X.mg x = some u) (hk : PySem.W.keepIn X.K u = true) (ha : SA X W (e :: es) ma) (hdb : (x == ("__debug__" : Str)) = false := by decide)
    (he : starEach (e :: es) X.env = (false, eval e X.env) :: starEach es X.env := by rfl) (hpl : (backTo pos (starEach es X.env)).any (·.1) = false := by rfl) : SE X W (.Call (.Name x p) (e :: es) [] pos) (ma.bind (mCallF ms f)) :=
  PE_imp (pe_calR C hg hm hk ha hdb he hpl) fun σ H Q q => by
    obtain ⟨F, g, S, q⟩ := q
    exact ⟨F, g, S, Pst_bind Stp.refl q fun hs vs F1 H1 g1 S1 P1 P01 r1 q1 => callF_ok S1 P01 r1 q1⟩
theorem sn_call {ms : List Md} {f : Fn} {ma : M (List Hd)} (C : CalR X W u (spF X.K ms f)) (hg : Gl X x) (hm : X.mg x = some u) (hk : PySem.W.keepIn X.K u = true) (ha : SA X W (e :: es) ma) (hdb : (x == ("__debug__" : Str)) = false := by decide)
    (he : starEach (e :: es) X.env = (false, eval e X.env) :: starEach es X.env := by rfl) (hpl : (backTo pos (starEach es X.env)).any (·.1) = false := by rfl) : SN X W (.Call (.Name x p) (e :: es) [] pos) (ma.bind (mCallN ms f)) :=
  PE_imp (pe_calR C hg hm hk ha hdb he hpl) fun σ H Q q => by
    obtain ⟨F, g, S, q⟩ := q
    exact ⟨F, g, S, Pst_bind Stp.refl q fun hs vs F1 H1 g1 S1 P1 P01 r1 q1 => callN_ok S1 P01 r1 q1⟩
end
end Cq

set_option Elab.async false
set_option linter.all false
set_option maxRecDepth 100000
namespace Cq
open PySem PySem.Spec PyProof.Rows L2
/-! ### list comprehensions -/
def wipeG (g : Gm) : List Nat → Gm
  | [] => g
  | v :: vs => (wipeG g vs).set v .un
def restG (g0 : Gm) (g : Gm) : List Nat → Gm
  | [] => g
  | v :: vs => match g0[v]? with
    | some s => (restG g0 g vs).set v s
    | none => restG g0 g vs
def lcL (T : Tgt) (c : M Bool) (e : M D) (vs : List Nat) : List D → Gm → Option (List D × Gm)
  | [], g => some ([], g)
  | d :: ds, g => match T d (wipeG g vs) with
    | none => none
    | some g1 => match c g1 with
      | some (.ok true g2) => (match e g2 with
        | some (.ok y g3) => (match lcL T c e vs ds g3 with
          | some (ys, g4) => some (y :: ys, g4)
          | none => none)
        | _ => none)
      | some (.ok false g2) => lcL T c e vs ds g2
      | _ => none
def Sl.plain : Sl → Bool
  | .un => true
  | .im _ => true
  | _ => false
def plainAt (g : Gm) (vs : List Nat) : Bool := vs.all fun i => match g[i]? with
  | some s => s.plain
  | none => false
def mLc (l : Option Nat) (it : M (List D)) (vs : List Nat) (T : Tgt) (c : M Bool) (e : M D) : M D := it.bind fun ds => fun g =>
  if plainAt (lendOut l g) vs = true then (match lcL T c e vs ds (lendOut l g) with
    | some (ys, g2) => if ds.length ≤ 1000000 then (match lendIn l g (restG (lendOut l g) (wipeG g2 vs) vs) with
      | some g3 => some (.ok (.lst ys) g3)
      | none => none) else none
    | none => none) else none
def W0 : WX := fun _ _ _ _ => False
section
variable {K : Frag} {σ : L2.St} {F H F' H' : Hp} {g g' : Gm}
theorem wipeG_get {vs : List Nat} {j : Nat} {s : Sl} (h : (wipeG g vs)[j]? = some s) : (j ∈ vs ∧ s = .un) ∨ (j ∉ vs ∧ g[j]? = some s) := by
  induction vs generalizing s with
  | nil => exact .inr ⟨by simp, h⟩
  | cons v vs ih =>
    rcases set_get (show ((wipeG g vs).set v .un)[j]? = some s from h) with ⟨h1, h2⟩ | ⟨h1, h2⟩
    · exact .inl ⟨by simp [h1], h2⟩
    · rcases ih h2 with ⟨h3, h4⟩ | ⟨h3, h4⟩
      · exact .inl ⟨List.mem_cons_of_mem _ h3, h4⟩
      · exact .inr ⟨by simp only [List.mem_cons, not_or]; exact ⟨h1, h3⟩, h4⟩
theorem wipeG_len {vs : List Nat} : (wipeG g vs).length = g.length := by
  induction vs with
  | nil => rfl
  | cons v vs ih => show ((wipeG g vs).set v .un).length = _; rw [List.length_set, ih]
theorem wipeG_cell {vs : List Nat} {j : Nat} {d : D} (h : ((wipeG g vs)[j]?).bind Sl.cell = some d) : j ∉ vs ∧ (g[j]?).bind Sl.cell = some d := by
  cases q : (wipeG g vs)[j]? with
  | none => rw [q] at h; cases h
  | some s =>
    rw [q] at h
    rcases wipeG_get q with ⟨_, z⟩ | ⟨z1, z2⟩
    · subst z; cases h
    · exact ⟨z1, by rw [z2]; exact h⟩
theorem Sta.wipe {vs : List Nat} (S : Sta K F g σ H) : Sta K F (wipeG g vs) (L2.wipe σ vs) H := by
  have ow : ∀ x, Own (wipeG g vs) (L2.wipe σ vs) H x → Own g σ H x := fun x ⟨i, d, a, c, e, f⟩ => by
    obtain ⟨h1, h2⟩ := wipeG_cell c
    rw [L2.wipe_out h1] at e
    exact ⟨i, d, a, h2, e, f⟩
  refine ⟨S.sub, by rw [wipeG_len, L2.wipe_length, S.len], fun j s e => ?_, fun i j d e a b x ij c1 c2 e1 e2 => ?_, fun i d a e1 e2 => ?_, S.tb⟩
  · rcases wipeG_get e with ⟨_, z⟩ | ⟨z1, z2⟩
    · subst z; trivial
    · rw [L2.wipe_out z1]; exact S.slot j s z2
  · obtain ⟨h1, h2⟩ := wipeG_cell c1
    obtain ⟨h3, h4⟩ := wipeG_cell c2
    rw [L2.wipe_out h1] at e1
    rw [L2.wipe_out h3] at e2
    exact S.inj i j d e a b x ij h2 h4 e1 e2
  · rcases wipeG_get e1 with ⟨_, z⟩ | ⟨z1, z2⟩
    · cases z
    · rw [L2.wipe_out z1] at e2
      exact (S.ro i d a z2 e2).imp id fun r o => r (ow a o)
theorem Stp.wipe {vs : List Nat} : Stp F H g σ F H (wipeG g vs) (L2.wipe σ vs) := by
  refine ⟨Sub.refl _, fun _ h => h, fun x o h1 _ h2 _ => ⟨h1, h2⟩, fun x ⟨i, d, a, c, e, f⟩ => ?_, fun i d h => ?_, fun i d h => ?_, fun _ _ _ fv h => ⟨fv, h⟩⟩
  · obtain ⟨h1, h2⟩ := wipeG_cell c
    rw [L2.wipe_out h1] at e
    exact .inl ⟨i, d, a, h2, e, f⟩
  · rcases wipeG_get h with ⟨_, z⟩ | ⟨z1, z2⟩
    · cases z
    · exact ⟨z2, L2.wipe_out z1⟩
  · rcases wipeG_get h with ⟨_, z⟩ | ⟨z1, z2⟩
    · cases z
    · exact ⟨⟨d, z2⟩, L2.wipe_out z1⟩
theorem restG_get {g0 : Gm} {vs : List Nat} {j : Nat} {s : Sl} (h : (restG g0 g vs)[j]? = some s) : (j ∈ vs ∧ g0[j]? = some s) ∨ ((j ∉ vs ∨ g0[j]? = none) ∧ g[j]? = some s) := by
  induction vs generalizing s with
  | nil => exact .inr ⟨.inl (by simp), h⟩
  | cons v vs ih =>
    simp only [restG] at h
    cases q : g0[v]? with
    | none =>
      simp only [q] at h
      rcases ih h with ⟨h1, h2⟩ | ⟨h1, h2⟩
      · exact .inl ⟨List.mem_cons_of_mem _ h1, h2⟩
      · by_cases e : j = v
        · subst e; exact .inr ⟨.inr q, h2⟩
        · exact .inr ⟨h1.imp (fun z w => z ((List.mem_cons.mp w).resolve_left e)) id, h2⟩
    | some t =>
      simp only [q] at h
      rcases set_get h with ⟨h1, h2⟩ | ⟨h1, h2⟩
      · subst h1; subst h2; exact .inl ⟨by simp, q⟩
      · rcases ih h2 with ⟨h3, h4⟩ | ⟨h3, h4⟩
        · exact .inl ⟨List.mem_cons_of_mem _ h3, h4⟩
        · exact .inr ⟨h3.imp (fun z w => z ((List.mem_cons.mp w).resolve_left h1)) id, h4⟩
theorem restG_len {g0 : Gm} {vs : List Nat} : (restG g0 g vs).length = g.length := by
  induction vs with
  | nil => rfl
  | cons v vs ih =>
    simp only [restG]
    cases g0[v]? with
    | none => exact ih
    | some t => simp only [List.length_set]; exact ih
theorem own_wiped {vs : List Nat} {x : Addr} (o : Own (wipeG g vs) (L2.wipe σ vs) H x) : Own g σ H x := by
  obtain ⟨i, d, a, c, e, f⟩ := o
  obtain ⟨h1, h2⟩ := wipeG_cell c
  rw [L2.wipe_out h1] at e
  exact ⟨i, d, a, h2, e, f⟩
theorem own_rest {vs : List Nat} {g2 : Gm} {x : Addr} (pl : plainAt g vs = true) (o : Own (restG g (wipeG g2 vs) vs) σ H x) : Own (wipeG g2 vs) (L2.wipe σ vs) H x := by
  obtain ⟨i, d, a, c, e, f⟩ := o
  cases q : (restG g (wipeG g2 vs) vs)[i]? with
  | none => rw [q] at c; cases c
  | some s =>
    rw [q] at c
    rcases restG_get q with ⟨h1, h2⟩ | ⟨h1, h2⟩
    · have z := List.all_eq_true.mp pl i h1
      simp only [h2] at z
      cases s with
      | ow _ => cases z
      | mb _ => cases z
      | _ => cases c
    · rcases wipeG_get h2 with ⟨_, z⟩ | ⟨z1, z2⟩
      · subst z; cases c
      · exact ⟨i, d, a, by rw [h2]; exact c, by rw [L2.wipe_out z1]; exact e, f⟩
theorem own_upd {p : Addr} {o : HO} (S : Sta K F g σ H) (no : ¬ Own g σ H p) {x : Addr} (ow : Own g σ (upd H p o) x) : Own g σ H x := by
  obtain ⟨i, d, a, c, ea, f⟩ := ow
  have na : a ≠ p := fun z => no ⟨i, d, a, c, ea, .inl z.symm⟩
  rcases f with f | ⟨C, fv, f⟩
  · exact ⟨i, d, a, c, ea, .inl f⟩
  · rw [upd_ne na] at f; exact ⟨i, d, a, c, ea, .inr ⟨C, fv, f⟩⟩
/-- behind the block: its own slots as they were -/
theorem Sta.rest {vs : List Nat} {g2 : Gm} {σ2 : L2.St} (pl : plainAt g vs = true) (S : Sta K F g σ H) (S2 : Sta K F' g2 σ2 H') (P : Stp F H (wipeG g vs) (L2.wipe σ vs) F' H' g2 σ2) (wp : L2.wipe σ2 vs = L2.wipe σ vs) :
    Sta K F' (restG g g2 vs) σ H' ∧ Stp F H g σ F' H' (restG g g2 vs) σ := by
  have lens : σ2.length = σ.length := by rw [← L2.wipe_length σ2 vs, wp, L2.wipe_length]
  have same : ∀ j, j ∉ vs → σ2[j]? = σ[j]? := fun j h => by rw [← L2.wipe_out (σ := σ2) h, wp, L2.wipe_out h]
  have plj : ∀ (j : Nat) (s : Sl), j ∈ vs → g[j]? = some s → s.plain = true := fun j s h e => by
    have q := List.all_eq_true.mp pl j h
    simpa only [e] using q
  have inR : ∀ (j : Nat) (s : Sl), (restG g g2 vs)[j]? = some s → (j ∈ vs ∧ g[j]? = some s ∧ s.plain = true) ∨ (j ∉ vs ∧ g2[j]? = some s) := fun j s h => by
    rcases restG_get h with ⟨h1, h2⟩ | ⟨h1, h2⟩
    · exact .inl ⟨h1, h2, plj j s h1 h2⟩
    · refine .inr ⟨?_, h2⟩
      rcases h1 with h1 | h1
      · exact h1
      · intro z
        have q := List.all_eq_true.mp pl j z
        simp only [h1] at q; cases q
  have cl : ∀ (j : Nat) (d : D), ((restG g g2 vs)[j]?).bind Sl.cell = some d → j ∉ vs ∧ (g2[j]?).bind Sl.cell = some d := fun j d c => by
    cases q : (restG g g2 vs)[j]? with
    | none => rw [q] at c; cases c
    | some s =>
      rw [q] at c
      rcases inR j s q with ⟨h1, h2, h3⟩ | ⟨h1, h2⟩
      · cases s with
        | ow _ => cases h3
        | mb _ => cases h3
        | _ => cases c
      · exact ⟨h1, by rw [h2]; exact c⟩
  have ow : ∀ x, Own (restG g g2 vs) σ H' x → Own g2 σ2 H' x := fun x ⟨i, d, a, c, e, f⟩ => by
    obtain ⟨h1, h2⟩ := cl i d c
    exact ⟨i, d, a, h2, by rw [same i h1]; exact e, f⟩
  refine ⟨⟨S2.sub, by rw [restG_len, S2.len, lens], fun j s e => ?_, fun i j d e a b x ij c1 c2 e1 e2 => ?_, fun i d a e1 e2 => ?_, S2.tb⟩, P.fg, P.st, fun x o h1 nb h2 h3 => P.fr x o h1 nb h2 fun o' => h3 ?_, fun x o => ?_, fun i d h => ?_, fun i d h => ?_, P.ki⟩
  · rcases inR j s e with ⟨h1, h2, h3⟩ | ⟨h1, h2⟩
    · have z := S.slot j s h2
      cases s with
      | un => trivial
      | im d => obtain ⟨v, w, r⟩ := z; exact ⟨v, w, r.mono P.fg⟩
      | _ => cases h3
    · rw [← same j h1]; exact S2.slot j s h2
  · obtain ⟨h1, h2⟩ := cl i d c1
    obtain ⟨h3, h4⟩ := cl j e c2
    exact S2.inj i j d e a b x ij h2 h4 (by rw [same i h1]; exact e1) (by rw [same j h3]; exact e2)
  · rcases inR i _ e1 with ⟨h1, h2, h3⟩ | ⟨h1, h2⟩
    · cases h3
    · exact (S2.ro i d a h2 (by rw [same i h1]; exact e2)).imp id fun r o => r (ow a o)
  · obtain ⟨i, d, a, c, e, f⟩ := o'
    obtain ⟨h4, h5⟩ := wipeG_cell c
    rw [L2.wipe_out h4] at e
    exact ⟨i, d, a, h5, e, f⟩
  · rcases P.own x (ow x o) with o | o
    · obtain ⟨i, d, a, c, e, f⟩ := o
      obtain ⟨h4, h5⟩ := wipeG_cell c
      rw [L2.wipe_out h4] at e
      exact .inl ⟨i, d, a, h5, e, f⟩
    · exact .inr o
  · rcases inR i _ h with ⟨h1, h2, h3⟩ | ⟨h1, h2⟩
    · cases h3
    · obtain ⟨h3, _⟩ := P.kro i d h2
      rcases wipeG_get h3 with ⟨z, _⟩ | ⟨_, z⟩
      · exact absurd z h1
      · exact ⟨z, rfl⟩
  · rcases inR i _ h with ⟨h1, h2, h3⟩ | ⟨h1, h2⟩
    · cases h3
    · obtain ⟨⟨e, h3⟩, _⟩ := P.kmb i d h2
      rcases wipeG_get h3 with ⟨z, _⟩ | ⟨_, z⟩
      · exact absurd z h1
      · exact ⟨⟨e, z⟩, rfl⟩
/-- the list that is being made, at an address that nobody knows -/
theorem Sta.updA {p : Addr} {o u : HO} {F0 H0 : Hp} {g0 : Gm} {σ0 : L2.St} (S0 : Sta K F0 g0 σ0 H0) (P : Stp F0 H0 g0 σ0 F H g σ) (S : Sta K F g σ H) (n0 : H0 p = none) (e : H p = some u) (nf : F p = none) (no : ¬ Own g σ H p) (du : Dt u := by exact ⟨fun _ z => (nomatch z), fun _ z => (nomatch z)⟩) :
    Sta K F g σ (upd H p o) ∧ Stp F0 H0 g0 σ0 F (upd H p o) g σ := by
  have cell : ∀ {a : Addr} {d : D}, (∃ (i : Nat), (g[i]?).bind Sl.cell = some d ∧ σ[i]? = some (some (V.ref a))) → Cell K F H a d → Cell K F (upd H p o) a d ∧ (∀ x, Foot (upd H p o) a x → Foot H a x) := fun {a d} ⟨i, c, ea⟩ k => by
    have np : ∀ x, Foot H a x → x ≠ p := fun x f z => no ⟨i, d, a, c, ea, by rw [← z]; exact f⟩
    have na : a ≠ p := np a (.inl rfl)
    refine ⟨k.same (Sub.refl _) fun x w f h => by rw [upd_ne (np x f)]; exact h, fun x f => ?_⟩
    rcases f with f | ⟨C, fv, f⟩
    · exact .inl f
    · rw [upd_ne na] at f; exact .inr ⟨C, fv, f⟩
  have ow : ∀ x, Own g σ (upd H p o) x → Own g σ H x := fun x ⟨i, d, a, c, ea, f⟩ => by
    obtain ⟨a', ea', k, _⟩ := S.cell c
    rw [ea] at ea'; cases ea'
    exact ⟨i, d, a, c, ea, (cell ⟨i, c, ea⟩ k).2 x f⟩
  have ne : ∀ {x}, H0 x ≠ none → x ≠ p := fun {x} h z => h (by rw [z]; exact n0)
  refine ⟨⟨fun a w h => ?_, S.len, fun i s h => ?_, fun i j d e' a b x ij c1 c2 e1 e2 f1 f2 => ?_, fun i d a e1 e2 => (S.ro i d a e1 e2).imp id fun r o => r (ow a o), S.tb.upd (fun w z => by rw [e] at z; cases z; exact du) fun _ _ z => z⟩, P.fg, fun x h => ?_, fun x w h1 nb h2 h3 => ?_, fun x o => P.own x (ow x o), P.kro, P.kmb, fun b C dx fv h => ?_⟩
  · rw [upd_ne fun z => by rw [z, nf] at h; cases h]; exact S.sub _ _ h
  · have z := S.slot i s h
    have cl : ∀ d, s.cell = some d → (∃ a, σ[i]? = some (some (V.ref a)) ∧ Cell K F H a d ∧ ∀ x, Foot H a x → F x = none) → ∃ a, σ[i]? = some (some (V.ref a)) ∧ Cell K F (upd H p o) a d ∧ ∀ x, Foot (upd H p o) a x → F x = none := fun d hd ⟨a, w1, k, n⟩ => by
      obtain ⟨k1, k2⟩ := cell ⟨i, by rw [h]; exact hd, w1⟩ k
      exact ⟨a, w1, k1, fun x f => n x (k2 x f)⟩
    cases s with
    | un => trivial
    | im d => exact z
    | ow d => exact cl d rfl z
    | mb d => exact cl d rfl z
    | ro d =>
      obtain ⟨v, w, r⟩ := z
      refine ⟨v, w, ?_⟩
      rcases r with r | ⟨a, rfl, c, n⟩
      · exact .inl r
      · by_cases ap : a = p
        · subst ap
          obtain ⟨h1, h2⟩ := P.kro i d h
          obtain ⟨v0, w0, r0⟩ := S0.slot i _ h1
          rw [← h2, w] at w0; cases w0
          rcases r0 with r0 | ⟨_, q, c0, _⟩
          · exact .inl (r0.mono P.fg)
          · cases q
            obtain ⟨u0, hu0⟩ := c0.at
            rw [n0] at hu0; cases hu0
        · refine .inr ⟨a, rfl, c.same (Sub.refl _) fun x q f hx => ?_, fun x f => ?_⟩
          · cases n x f; rw [upd_ne ap]; exact hx
          · rcases f with f | ⟨C, fv, f⟩
            · exact f
            · rw [upd_ne ap] at f; exact n x (.inr ⟨C, fv, f⟩)
  · obtain ⟨a', ea', k1, _⟩ := S.cell c1
    rw [e1] at ea'; cases ea'
    obtain ⟨b', eb', k2, _⟩ := S.cell c2
    rw [e2] at eb'; cases eb'
    exact S.inj i j d e' a b x ij c1 c2 e1 e2 ((cell ⟨i, c1, e1⟩ k1).2 x f1) ((cell ⟨j, c2, e2⟩ k2).2 x f2)
  · rw [upd_ne (ne h)]; exact P.st x h
  · rw [upd_ne (ne (by rw [h1]; exact fun z => nomatch z))]; exact P.fr x w h1 nb h2 h3
  · obtain ⟨fv', z⟩ := P.ki b C dx fv h
    exact ⟨fv', by rw [upd_ne (ne (by rw [h]; exact fun z => nomatch z))]; exact z⟩
end
section
variable {X : Cx} {W : WX} {pos : Pos} {σ : L2.St} {F H F0 H0 : Hp} {g g0 : Gm}
/-- a clause's tests -/
def STs (X : Cx) (ifs : List Expr) (c : M Bool) : Prop := PTs X ifs (tG X.K W0 relB c)
theorem PTs_imp {X : Cx} {e : List Expr} {t t' : TT} (h : PTs X e t) (k : ∀ σ H Q, t' σ H Q → t σ H Q) : PTs X e t' := ⟨fun pins s σ H Q I q => h.run pins s σ H Q I (k σ H Q q)⟩
theorem st_nil : STs X [] (M.ret true) := PTs_imp pts_nil fun σ H Q q => by
  obtain ⟨F, g, S, q⟩ := q
  exact q true F H S Stp.refl rfl
theorem st_one {c : Expr} {m : M Bool} (h : SB X W0 c m) : STs X [c] m := pts_one h
def mLcR (l : Option Nat) (vs : List Nat) (T : Tgt) (c : M Bool) (e : M D) (ds : List D) : M D := fun g =>
  if plainAt (lendOut l g) vs = true then (match lcL T c e vs ds (lendOut l g) with
    | some (ys, g2) => if ds.length ≤ 1000000 then (match lendIn l g (restG (lendOut l g) (wipeG g2 vs) vs) with
      | some g3 => some (.ok (.lst ys) g3)
      | none => none) else none
    | none => none) else none
theorem lc_rest {l : Option Nat} {vs : List Nat} {T : Tgt} {c : M Bool} {e : M D} {Q : VK} {ds : List D} {J : It} {F1 H1 : Hp} {g1 : Gm} (S1 : Sta X.K F1 g1 σ H1) (P1 : Stp F H g σ F1 H1 g1 σ) (r1 : relI X.K l σ H F1 H1 g1 ds J)
    (q1 : Pst X.K W σ (relN X.K) F H g Q (mLcR l vs T c e ds g1)) : tLc (fun _ _ R => R J H1) (tTg X.K vs T) (tG X.K W0 relB c) (tG X.K W0 (relE X.K) e) vs σ H Q := by
  unfold mLcR at q1
  obtain ⟨L, itm, l0, lk, fl⟩ := r1
  intro A hA
  have Sl := lend_sta S1 fl
  by_cases pl : plainAt (lendOut l g1) vs = true
  · rw [if_pos pl] at q1
    cases o : lcL T c e vs ds (lendOut l g1) with
    | none => simp only [o] at q1; exact q1.elim
    | some r =>
      obtain ⟨ys, g2⟩ := r
      simp only [o] at q1
      by_cases len : ds.length ≤ 1000000
      · rw [if_pos len] at q1
        cases li : lendIn l g1 (restG (lendOut l g1) (wipeG g2 vs) vs) with
        | none => simp only [li] at q1; exact q1.elim
        | some g3 =>
          simp only [li] at q1
          have SW := Sl.wipe (vs := vs)
          have PW : Stp F1 H1 (lendOut l g1) σ F1 H1 (wipeG (lendOut l g1) vs) (L2.wipe σ vs) := Stp.wipe
          have nfA : F1 A = none := sub_none S1.sub hA
          refine ⟨fun i m H' => ∃ F' g' acc ac zs, Sta X.K F' (wipeG g' vs) (L2.wipe σ vs) H' ∧ Stp F1 H1 (wipeG (lendOut l g1) vs) (L2.wipe σ vs) F' H' (wipeG g' vs) (L2.wipe σ vs) ∧ m = ds.length - i ∧ i ≤ ds.length ∧
            H' A = some (.lst acc) ∧ F' A = none ∧ ¬ Own (wipeG g' vs) (L2.wipe σ vs) H' A ∧ acc.length ≤ i ∧ Reps X.K F' acc ac ∧ lcL T c e vs (ds.drop i) g' = some (zs, g2) ∧ ac ++ zs = ys, ⟨ds.length, ?_⟩, ?_⟩
          · have Aa := Al.mkN (o := HO.lst []) SW.sub hA
            obtain ⟨S0, P0⟩ := SW.al Aa
            refine ⟨F1, lendOut l g1, [], [], ys, S0, P0, rfl, Nat.zero_le _, upd_same, nfA, fun ow => ?_, Nat.le_refl _, .nil, o, rfl⟩
            obtain ⟨u, hu⟩ := SW.own_at (SW.own_al Aa.hg ow)
            rw [hA] at hu; cases hu
          · rintro i m H3 ⟨F3, g', acc, ac, zs, S3, P3, rfl, hi, eA, fA, oA, la, ra, ho, hy⟩
            have L3 := lk _ _ _ _ (PW.trans P3)
            have sub := P3.fg.trans S3.sub
            by_cases lt : i < ds.length
            · refine .inr ⟨itm.go i H3 sub L3 lt, fun H' => ∃ F' g' acc ac zs, Sta X.K F' (wipeG g' vs) (L2.wipe σ vs) H' ∧ Stp F1 H1 (wipeG (lendOut l g1) vs) (L2.wipe σ vs) F' H' (wipeG g' vs) (L2.wipe σ vs) ∧
                H' A = some (.lst acc) ∧ F' A = none ∧ ¬ Own (wipeG g' vs) (L2.wipe σ vs) H' A ∧ acc.length ≤ i + 1 ∧ Reps X.K F' acc ac ∧ lcL T c e vs (ds.drop (i + 1)) g' = some (zs, g2) ∧ ac ++ zs = ys,
                fun H' ⟨F', g', acc, ac, zs, z1, z2, z3, z4, z5, z6, z7, z8, z9⟩ => ⟨ds.length - (i + 1), by omega, F', g', acc, ac, zs, z1, z2, rfl, lt, z3, z4, z5, z6, z7, z8, z9⟩, fun x H' y => ?_⟩
              obtain ⟨F4, Ay, r4⟩ := itm.yld i H3 x H' F3 ds[i] P3.fg S3.sub L3 y (List.getElem?_eq_getElem lt)
              obtain ⟨S4, P4⟩ := S3.al Ay
              rw [List.drop_eq_getElem_cons lt] at ho
              simp only [lcL] at ho
              cases hT : T ds[i] (wipeG g' vs) with
              | none => simp only [hT] at ho; cases ho
              | some gT =>
                simp only [hT] at ho
                refine ⟨F4, wipeG g' vs, ds[i], gT, S4, r4, hT, fun σT ST PT AT => ?_⟩
                have wT : L2.wipe σT vs = L2.wipe σ vs := by
                  apply List.ext_getElem?
                  intro j
                  have wl : ∀ (τ : L2.St), τ.length = σ.length → j ∈ vs → (L2.wipe τ vs)[j]? = if j < σ.length then some none else none := fun τ lt hj => by
                    by_cases jl : j < σ.length
                    · rw [if_pos jl]
                      cases q : (L2.wipe τ vs)[j]? with
                      | none => rw [List.getElem?_eq_none_iff, L2.wipe_length, lt] at q; omega
                      | some w => cases w with
                        | none => rfl
                        | some v => exact absurd hj (L2.wipe_some q).2
                    · rw [if_neg jl]; exact List.getElem?_eq_none (by rw [L2.wipe_length, lt]; omega)
                  have lT : σT.length = σ.length := by rw [AT.1, L2.wipe_length]
                  by_cases hj : j ∈ vs
                  · rw [wl σT lT hj, wl σ rfl hj]
                  · rw [L2.wipe_out hj, AT.2 j hj]
                refine ⟨wT, F4, gT, ST, ?_⟩
                have P5 := P3.trans (P4.trans PT)
                -- what is known of the new list stays
                have keepA : ∀ {F6 H6 : Hp} {g6 : Gm}, Stp F4 H' gT σT F6 H6 g6 σT → H6 A = some (.lst acc) ∧ F6 A = none ∧ ¬ Own g6 σT H6 A := fun {F6 H6 g6} P6 => by
                  have PP := P4.trans (PT.trans P6)
                  obtain ⟨k1, k2⟩ := PP.fr' eA (fun _ z => nomatch z) (fun _ z => nomatch z) fA oA
                  refine ⟨k1, k2, fun ow => ?_⟩
                  rcases PP.own A ow with ow | ow
                  · exact oA ow
                  · rw [eA] at ow; cases ow
                cases hc : c gT with
                | none => simp only [hc] at ho; cases ho
                | some rc => cases rc with
                  | ex _ _ => simp only [hc] at ho; cases ho
                  | ok b gc =>
                    intro b' F6 H6 S6 P6 eb
                    cases (show b = b' from eb)
                    obtain ⟨k1, k2, k3⟩ := keepA P6
                    have P7 := P5.trans P6
                    cases b with
                    | false =>
                      simp only [hc] at ho
                      rw [if_neg (by decide)]
                      have SW6 := S6.wipe (vs := vs)
                      have PW6 : Stp F6 H6 gc σT F6 H6 (wipeG gc vs) (L2.wipe σT vs) := Stp.wipe
                      rw [wT] at SW6 PW6
                      refine ⟨F6, gc, acc, ac, zs, SW6, P7.trans PW6, k1, k2, fun ow => ?_, by omega, ra.mono ((P4.trans (PT.trans P6)).fg), ho, hy⟩
                      rcases PW6.own A ow with z | z
                      · exact k3 z
                      · rw [k1] at z; cases z
                    | true =>
                      simp only [hc] at ho
                      rw [if_pos rfl]
                      refine ⟨F6, gc, S6, ?_⟩
                      cases he : e gc with
                      | none => simp only [he] at ho; cases ho
                      | some re => cases re with
                        | ex _ _ => simp only [he] at ho; cases ho
                        | ok yd ge =>
                          simp only [he] at ho
                          cases hr : lcL T c e vs (ds.drop (i + 1)) ge with
                          | none => simp only [hr] at ho; cases ho
                          | some rr =>
                            obtain ⟨ws, gw⟩ := rr
                            simp only [hr] at ho
                            cases ho
                            intro yv F8 H8 S8 P8 r8
                            obtain ⟨m1, m2, m3⟩ := keepA (P6.trans P8)
                            have P9 := P7.trans P8
                            obtain ⟨SA, PA⟩ := Sta.updA (o := HO.lst (acc ++ [yv])) SW P9 S8 hA m1 m2 m3
                            refine ⟨acc, m1, Nat.lt_of_le_of_lt (Nat.le_trans la hi) (Nat.lt_of_le_of_lt len (by decide)), ?_⟩
                            have SW8 := SA.wipe (vs := vs)
                            have PW8 : Stp F8 (upd H8 A (.lst (acc ++ [yv]))) ge σT F8 (upd H8 A (.lst (acc ++ [yv]))) (wipeG ge vs) (L2.wipe σT vs) := Stp.wipe
                            rw [wT] at SW8 PW8
                            refine ⟨F8, ge, acc ++ [yv], ac ++ [yd], ws, SW8, PA.trans PW8, upd_same, m2, fun ow => ?_, by simp; omega, (ra.mono ((P4.trans (PT.trans (P6.trans P8))).fg)).append (.cons r8 .nil), hr, by simpa using hy⟩
                            rw [← wT] at ow
                            exact m3 (own_upd S8 m3 (own_wiped ow))
            · have ei : i = ds.length := by omega
              subst ei
              rw [List.drop_length] at ho
              simp only [lcL] at ho
              cases ho
              have wi : L2.wipe (L2.wipe σ vs) vs = L2.wipe σ vs := by
                apply List.ext_getElem?
                intro j
                by_cases hj : j ∈ vs
                · cases q : (L2.wipe (L2.wipe σ vs) vs)[j]? with
                  | none => rw [List.getElem?_eq_none_iff, L2.wipe_length] at q; exact (List.getElem?_eq_none_iff.mpr q).symm
                  | some w => cases w with
                    | some v => exact absurd hj (L2.wipe_some q).2
                    | none => cases q2 : (L2.wipe σ vs)[j]? with
                      | none =>
                        have := (List.getElem?_eq_some_iff.mp q).1
                        rw [L2.wipe_length] at this
                        rw [List.getElem?_eq_none_iff] at q2; omega
                      | some w2 => cases w2 with
                        | none => rfl
                        | some v => exact absurd hj (L2.wipe_some q2).2
                · rw [L2.wipe_out hj]
              obtain ⟨SR, PR⟩ := Sta.rest pl Sl S3 P3 wi
              obtain ⟨SB', PB', OB⟩ := lend_back S1 fl SR PR li
              refine .inl ⟨itm.stop _ H3 sub L3 (Nat.le_refl _), q1 _ F3 H3 SB' (P1.trans PB') ⟨A, rfl, ⟨acc, eA, by rw [List.append_nil] at hy; rw [← hy]; exact ra⟩, fun x f => ?_⟩⟩
              have ex : x = A := by
                rcases f with f | ⟨C, fv, f⟩
                · exact f
                · rw [eA] at f; cases f
              subst ex
              refine ⟨fA, fun ow => ?_, Classical.byContradiction fun h0 => P1.st x h0 hA⟩
              rcases OB x ow with z | z
              · exact oA (own_rest pl z)
              · obtain ⟨u, hu⟩ := S1.own_at z
                rw [hA] at hu; cases hu
      · rw [if_neg len] at q1; exact q1.elim
  · rw [if_neg pl] at q1; exact q1.elim
theorem lc_reads {l : Option Nat} {it : M (List D)} {vs : List Nat} {T : Tgt} {c : M Bool} {e : M D} {Q : VK} (h : tG X.K W (relN X.K) (mLc l it vs T c e) σ H Q) :
    tLc (tG X.K W (relI X.K l) it) (tTg X.K vs T) (tG X.K W0 relB c) (tG X.K W0 (relE X.K) e) vs σ H Q := by
  obtain ⟨F, g, S, h⟩ := h
  exact ⟨F, g, S, Pst_bind Stp.refl h fun ds J F1 H1 g1 S1 P1 P01 r1 q1 => lc_rest S1 P1 r1 q1⟩
end
end Cq

set_option Elab.async false
set_option linter.all false
set_option maxRecDepth 100000
namespace Cq
open PySem PySem.Spec PyProof.Rows L2
/-! ### data as the library's data -/
mutual
def D.py : D → Option PyData
  | .non => some .none
  | .bl b => some (.bool b)
  | .int i => some (.int i)
  | .str x => some (.str x)
  | .tup xs => (pyL xs).map .tuple
  | .lst xs => (pyL xs).map .list
  | _ => none
def pyL : List D → Option (List PyData)
  | [] => some []
  | d :: ds => match d.py, pyL ds with
    | some p, some ps => some (p :: ps)
    | _, _ => none
end
mutual
theorem Rep.dp {K : Frag} {F H : Hp} (s : Sub F H) : ∀ {v : V} {d : D} {p : PyData}, Rep K F v d → d.py = some p → Dp K H v p
  | _, _, _, .non, e => by simp only [D.py] at e; cases e; exact .non
  | _, _, _, .bl b, e => by simp only [D.py] at e; cases e; exact .bl b
  | _, _, _, .int i, e => by simp only [D.py] at e; cases e; exact .int i
  | _, _, _, .str x, e => by simp only [D.py] at e; cases e; exact .str x
  | _, .tup xs, _, .tup h r, e => by
    simp only [D.py] at e
    cases q : pyL xs with
    | none => rw [q] at e; cases e
    | some ps => rw [q] at e; cases e; exact .tup (s.tup h) (Reps.dp s r q)
  | _, .lst xs, _, .lst h r, e => by
    simp only [D.py] at e
    cases q : pyL xs with
    | none => rw [q] at e; cases e
    | some ps => rw [q] at e; cases e; exact .lst (.inl (.inl (s _ _ h))) (Reps.dp s r q)
  | _, _, _, .dik _ _ _, e => by simp [D.py] at e
  | _, _, _, .dit _ _ _, e => by simp [D.py] at e
  | _, _, _, .ins _ _ _ _, e => by simp [D.py] at e
  | _, _, _, .scr _, e => by simp [D.py] at e
  | _, _, _, .glo _, e => by simp [D.py] at e
theorem Reps.dp {K : Frag} {F H : Hp} (s : Sub F H) : ∀ {vs : List V} {ds : List D} {ps : List PyData}, Reps K F vs ds → pyL ds = some ps → DpAll K H vs ps
  | _, _, _, .nil, e => by simp only [pyL] at e; cases e; exact .nil
  | _, d :: ds, _, .cons r t, e => by
    simp only [pyL] at e
    cases q : d.py with
    | none => rw [q] at e; cases e
    | some p => cases q2 : pyL ds with
      | none => rw [q, q2] at e; cases e
      | some ps => rw [q, q2] at e; cases e; exact .cons (Rep.dp s r q) (Reps.dp s t q2)
end
theorem RoV.dp {K : Frag} {F H : Hp} (s : Sub F H) {v : V} {d : D} {p : PyData} (r : RoV K F H v d) (e : d.py = some p) : Dp K H v p := by
  rcases r with r | ⟨a, rfl, c, _⟩
  · exact r.dp s e
  · cases d with
    | lst xs =>
      obtain ⟨vs, h, r⟩ := c
      simp only [D.py] at e
      cases q : pyL xs with
      | none => rw [q] at e; cases e
      | some ps => rw [q] at e; cases e; exact .lst (.inl (.inl h)) (Reps.dp s r q)
    | dik _ => simp [D.py] at e
    | dit _ => simp [D.py] at e
    | ins _ _ => simp [D.py] at e
    | _ => exact c.elim
theorem RoV.int {K : Frag} {F H : Hp} {v : V} {i : Int} (r : RoV K F H v (.int i)) : v = .int i := by
  rcases r with r | ⟨a, rfl, c, _⟩
  · cases r; rfl
  · exact c.elim
theorem RoV.bl {K : Frag} {F H : Hp} {v : V} {i : Bool} (r : RoV K F H v (.bl i)) : v = .bl i := by
  rcases r with r | ⟨a, rfl, c, _⟩
  · cases r; rfl
  · exact c.elim
theorem RoV.non {K : Frag} {F H : Hp} {v : V} (r : RoV K F H v .non) : v = .non := by
  rcases r with r | ⟨a, rfl, c, _⟩
  · cases r; rfl
  · exact c.elim
theorem RoV.str {K : Frag} {F H : Hp} {v : V} {i : Str} (r : RoV K F H v (.str i)) : v = .str i := by
  rcases r with r | ⟨a, rfl, c, _⟩
  · cases r; rfl
  · exact c.elim
theorem RoV.tup {K : Frag} {F H : Hp} {v : V} {ds : List D} (s : Sub F H) (r : RoV K F H v (.tup ds)) : ∃ a vs, v = .ref a ∧ SqT K H a vs ∧ Reps K F vs ds ∧ Rep K F v (.tup ds) := by
  rcases r with r | ⟨a, rfl, c, _⟩
  · cases r with
    | tup h r => exact ⟨_, _, rfl, s.tup h, r, .tup h r⟩
  · exact c.elim
theorem RoV.lst {K : Frag} {F H : Hp} {v : V} {ds : List D} (s : Sub F H) (r : RoV K F H v (.lst ds)) : ∃ a vs, v = .ref a ∧ H a = some (.lst vs) ∧ Reps K F vs ds := by
  rcases r with r | ⟨a, rfl, c, _⟩
  · cases r with
    | lst h r => exact ⟨_, _, rfl, s _ _ h, r⟩
  · obtain ⟨vs, h, r⟩ := c; exact ⟨_, _, rfl, h, r⟩
theorem Reps.ints {K : Frag} {F : Hp} : ∀ {vs : List V} {ns : List Int}, Reps K F vs (ns.map D.int) → vs = ns.map V.int
  | _, [], .nil => rfl
  | _, n :: ns, .cons r t => by cases r; rw [Reps.ints t]; rfl
theorem Reps.strs {K : Frag} {F : Hp} : ∀ {vs : List V} {ns : List Str}, Reps K F vs (ns.map D.str) → vs = ns.map V.str
  | _, [], .nil => rfl
  | _, n :: ns, .cons r t => by cases r; rw [Reps.strs t]; rfl
theorem Reps.bools {K : Frag} {F : Hp} : ∀ {vs : List V} {ns : List Bool}, Reps K F vs (ns.map D.bl) → vs = ns.map V.bl
  | _, [], .nil => rfl
  | _, n :: ns, .cons r t => by cases r; rw [Reps.bools t]; rfl
theorem Reps.ofStrs {K : Frag} {F : Hp} : ∀ (ns : List Str), Reps K F (ns.map V.str) (ns.map D.str)
  | [] => .nil
  | n :: ns => .cons (.str n) (Reps.ofStrs ns)
/-! ### a list of data as a list of one kind -/
def intsOf : List D → Option (List Int)
  | [] => some []
  | .int i :: ds => (intsOf ds).map (i :: ·)
  | _ :: _ => none
def strsOf : List D → Option (List Str)
  | [] => some []
  | .str i :: ds => (strsOf ds).map (i :: ·)
  | _ :: _ => none
def blsOf : List D → Option (List Bool)
  | [] => some []
  | .bl i :: ds => (blsOf ds).map (i :: ·)
  | _ :: _ => none
theorem intsOf_ok : ∀ {ds : List D} {ns : List Int}, intsOf ds = some ns → ds = ns.map D.int
  | [], _, e => by simp only [intsOf] at e; cases e; rfl
  | d :: ds, ns, e => by
    cases d with
    | int i =>
      simp only [intsOf] at e
      cases q : intsOf ds with
      | none => rw [q] at e; cases e
      | some ms => rw [q] at e; cases e; rw [intsOf_ok q]; rfl
    | _ => simp [intsOf] at e
theorem strsOf_ok : ∀ {ds : List D} {ns : List Str}, strsOf ds = some ns → ds = ns.map D.str
  | [], _, e => by simp only [strsOf] at e; cases e; rfl
  | d :: ds, ns, e => by
    cases d with
    | str i =>
      simp only [strsOf] at e
      cases q : strsOf ds with
      | none => rw [q] at e; cases e
      | some ms => rw [q] at e; cases e; rw [strsOf_ok q]; rfl
    | _ => simp [strsOf] at e
theorem blsOf_ok : ∀ {ds : List D} {ns : List Bool}, blsOf ds = some ns → ds = ns.map D.bl
  | [], _, e => by simp only [blsOf] at e; cases e; rfl
  | d :: ds, ns, e => by
    cases d with
    | bl i =>
      simp only [blsOf] at e
      cases q : blsOf ds with
      | none => rw [q] at e; cases e
      | some ms => rw [q] at e; cases e; rw [blsOf_ok q]; rfl
    | _ => simp [blsOf] at e
/-! ### operators -/
def dAdd : D → D → Option D
  | .int i, .int j => some (.int (i + j))
  | .str x, .str y => if x.length + y.length ≤ 1000000 then some (.str (x ++ y)) else none
  | .tup xs, .tup ys => if xs.length + ys.length ≤ 1000000 then some (.tup (xs ++ ys)) else none
  | .lst xs, .lst ys => if xs.length + ys.length ≤ 1000000 then some (.lst (xs ++ ys)) else none
  | _, _ => none
def dSub : D → D → Option D
  | .int i, .int j => some (.int (i - j))
  | _, _ => none
def dMul : D → D → Option D
  | .int i, .int j => if i.natAbs < 2 ^ 64 ∨ j.natAbs < 2 ^ 64 then some (.int (i * j)) else none
  | .lst xs, .int k => if 0 ≤ k ∧ k ≤ 1000 ∧ xs.length ≤ 1000 then some (.lst (List.replicate k.toNat xs).flatten) else none
  | _, _ => none
def dMod : D → D → Option D
  | .int i, .int j => if 0 < j then some (.int (i % j)) else none
  | _, _ => none
def dDiv : D → D → Option D
  | .int i, .int j => if 0 < j ∧ j < 1073741824 then some (.int (i / j)) else none
  | _, _ => none
def dPow : D → D → Option D
  | .int i, .int j => if 0 ≤ j ∧ j ≤ 1000 ∧ i.natAbs < 2 ^ 64 then some (.int (i ^ j.toNat)) else none
  | _, _ => none
def dNeg : D → Option D
  | .int i => some (.int (-i))
  | _ => none
def dI (f : Int → Int → Bool) : D → D → Option D
  | .int i, .int j => some (.bl (f i j))
  | _, _ => none
def dEqP (d e : D) : Option D := match d.py, e.py with
  | some p, some q => if SeqAt.shaped p = true ∧ SeqAt.shaped q = true then some (.bl (PyData.eqv p q)) else none
  | _, _ => none
def dEq : D → D → Option D
  | .str x, .str y => some (.bl (decide (x = y)))
  | d, e => dEqP d e
def dNeP (d e : D) : Option D := match d.py, e.py with
  | some p, some q => if SeqAt.shaped p = true ∧ SeqAt.shaped q = true then some (.bl (!PyData.eqv p q)) else none
  | _, _ => none
def dNe : D → D → Option D
  | .str x, .str y => some (.bl (!decide (x = y)))
  | d, e => dNeP d e
section
variable {X : Cx} {W : WX} {pos : Pos} {σ : L2.St} {F H F0 H0 : Hp} {g g0 : Gm}
theorem opD {f : Value → Value → Sem Value} {r r' : R2} (ho : OpR X f r) (k : ∀ x y H Q, r' x y H Q → r x y H Q) : OpR X f r' := fun pins s σ H x y v u Q I rx ry h => ho pins s σ H x y v u Q I rx ry (k x y H Q h)
theorem al_tup {vs : List V} {ds : List D} {p : Addr} (s : Sub F H) (n : H p = none) (r : Reps X.K F vs ds) : Al F H (upd F p (.tup vs)) (upd H p (.tup vs)) ∧ Rep X.K (upd F p (.tup vs)) (.ref p) (.tup ds) := by
  have A := Al.mk1 (o := HO.tup vs) s n
  exact ⟨A, .tup (.inl (.inl upd_same)) (r.mono A.fg)⟩
theorem al_lst {vs : List V} {ds : List D} {p : Addr} (s : Sub F H) (n : H p = none) (r : Reps X.K F vs ds) : Al F H (upd F p (.lst vs)) (upd H p (.lst vs)) ∧ Rep X.K (upd F p (.lst vs)) (.ref p) (.lst ds) := by
  have A := Al.mk1 (o := HO.lst vs) s n
  exact ⟨A, .lst upd_same (r.mono A.fg)⟩
theorem ow_add : OpR X (binaryOp .Add) (rD2 X.K dAdd) := by
  refine opD (OpR.or op_add (OpR.or op_add_str (OpR.or op_catA op_cat))) fun x y H Q ⟨F, d, e, z, s, r1, r2, h, q⟩ => ?_
  have A := Al.refl s
  cases d <;> cases e <;> simp only [dAdd] at h <;> first | cases h | skip
  · cases r1.int; cases r2.int; exact .inl ⟨_, _, rfl, rfl, q _ F H A (.int _)⟩
  · rename_i a b
    by_cases l : a.length + b.length ≤ 1000000
    · rw [if_pos l] at h; cases h
      cases r1.str; cases r2.str
      exact .inr (.inl ⟨_, _, rfl, rfl, line_le l, q _ F H A (.str _)⟩)
    · rw [if_neg l] at h; cases h
  · rename_i a b
    by_cases l : a.length + b.length ≤ 1000000
    · rw [if_pos l] at h; cases h
      obtain ⟨p, vs, rfl, k1, k2, k3⟩ := r1.tup s
      obtain ⟨p', vs', rfl, k1', k2', k3'⟩ := r2.tup s
      refine .inr (.inr (.inl ⟨p, p', vs, vs', rfl, rfl, k1, k1', by rw [k2.length, k2'.length]; exact line_le l, fun e => ?_, fun _ e => ?_, fun _ _ t nt => ?_⟩))
      · subst e; cases k2; exact q _ F H A k3'
      · subst e; cases k2'; rw [List.append_nil] at q; exact q _ F H A k3
      · obtain ⟨A', r'⟩ := al_tup (X := X) s nt (k2.append k2')
        exact q _ _ _ A' r'
    · rw [if_neg l] at h; cases h
  · rename_i a b
    by_cases l : a.length + b.length ≤ 1000000
    · rw [if_pos l] at h; cases h
      obtain ⟨p, vs, rfl, k1, k2⟩ := r1.lst s
      obtain ⟨p', vs', rfl, k1', k2'⟩ := r2.lst s
      refine .inr (.inr (.inr ⟨p, p', vs, vs', rfl, rfl, k1, k1', by rw [k2.length, k2'.length]; exact line_le l, fun t nt => ?_⟩))
      obtain ⟨A', r'⟩ := al_lst (X := X) s nt (k2.append k2')
      exact q _ _ _ A' r'
    · rw [if_neg l] at h; cases h
theorem ow_sub : OpR X (binaryOp .Sub) (rD2 X.K dSub) := by
  refine opD op_sub fun x y H Q ⟨F, d, e, z, s, r1, r2, h, q⟩ => ?_
  cases d <;> cases e <;> simp only [dSub] at h <;> first | cases h | skip
  cases r1.int; cases r2.int; exact ⟨_, _, rfl, rfl, q _ F H (Al.refl s) (.int _)⟩
theorem abs64 {i : Int} (h : i.natAbs < 2 ^ 64) : -(2 ^ 64) < i ∧ i < 2 ^ 64 := by omega
theorem ow_mul : OpR X (binaryOp .Mult) (rD2 X.K dMul) := by
  refine opD (OpR.or op_mul op_rep) fun x y H Q ⟨F, d, e, z, s, r1, r2, h, q⟩ => ?_
  cases d <;> cases e <;> simp only [dMul] at h <;> first | cases h | skip
  · rename_i i j
    by_cases c : i.natAbs < 2 ^ 64 ∨ j.natAbs < 2 ^ 64
    · rw [if_pos c] at h; cases h
      cases r1.int; cases r2.int
      exact .inl ⟨_, _, rfl, rfl, c.imp abs64 abs64, q _ F H (Al.refl s) (.int _)⟩
    · rw [if_neg c] at h; cases h
  · rename_i xs k
    by_cases c : 0 ≤ k ∧ k ≤ 1000 ∧ xs.length ≤ 1000
    · rw [if_pos c] at h; cases h
      cases r2.int
      obtain ⟨p, vs, rfl, k1, k2⟩ := r1.lst s
      refine .inr ⟨p, k, vs, rfl, rfl, k1, by omega, by omega, ?_, fun t nt => ?_⟩
      · have : vs.length * k.toNat ≤ 1000 * 1000 := Nat.mul_le_mul (by rw [k2.length]; exact c.2.2) (by omega)
        exact line_le this
      · have rr : ∀ n : Nat, Reps X.K F (List.replicate n vs).flatten (List.replicate n xs).flatten := fun n => by
          induction n with
          | zero => exact .nil
          | succ n ih => simp only [List.replicate_succ, List.flatten_cons]; exact k2.append ih
        obtain ⟨A', r'⟩ := al_lst (X := X) s nt (rr k.toNat)
        exact q _ _ _ A' r'
    · rw [if_neg c] at h; cases h
theorem ow_mod : OpR X (binaryOp .Mod) (rD2 X.K dMod) := by
  refine opD op_mod fun x y H Q ⟨F, d, e, z, s, r1, r2, h, q⟩ => ?_
  cases d <;> cases e <;> simp only [dMod] at h <;> first | cases h | skip
  rename_i i j
  by_cases c : 0 < j
  · rw [if_pos c] at h; cases h
    cases r1.int; cases r2.int; exact ⟨_, _, rfl, rfl, c, q _ F H (Al.refl s) (.int _)⟩
  · rw [if_neg c] at h; cases h
theorem ow_div : OpR X (binaryOp .FloorDiv) (rD2 X.K dDiv) := by
  refine opD op_fdiv fun x y H Q ⟨F, d, e, z, s, r1, r2, h, q⟩ => ?_
  cases d <;> cases e <;> simp only [dDiv] at h <;> first | cases h | skip
  rename_i i j
  by_cases c : 0 < j ∧ j < 1073741824
  · rw [if_pos c] at h; cases h
    cases r1.int; cases r2.int; exact ⟨_, _, rfl, rfl, c, q _ F H (Al.refl s) (.int _)⟩
  · rw [if_neg c] at h; cases h
theorem ow_pow : OpR X (binaryOp .Pow) (rD2 X.K dPow) := by
  refine opD op_pow fun x y H Q ⟨F, d, e, z, s, r1, r2, h, q⟩ => ?_
  cases d <;> cases e <;> simp only [dPow] at h <;> first | cases h | skip
  rename_i i j
  by_cases c : 0 ≤ j ∧ j ≤ 1000 ∧ i.natAbs < 2 ^ 64
  · rw [if_pos c] at h; cases h
    cases r1.int; cases r2.int; exact ⟨_, _, rfl, rfl, ⟨c.1, by omega, c.2.2⟩, q _ F H (Al.refl s) (.int _)⟩
  · rw [if_neg c] at h; cases h
theorem ow_neg : UnR X (unaryOp .USub) (rD1 X.K dNeg) := by
  intro pins s σ H x v Q I rx h
  obtain ⟨F, d, z, sb, r, h, q⟩ := h
  refine un_neg pins s σ H x v Q I rx ?_
  cases d <;> simp only [dNeg] at h <;> first | cases h | skip
  cases r.int; exact ⟨_, rfl, q _ F H (Al.refl sb) (.int _)⟩
theorem owI {op : CmpOp} {f : Int → Int → Bool} (ho : OpR X (compareOp op) (rI0 fun i j => .bl (f i j))) : OpR X (compareOp op) (rD2 X.K (dI f)) := by
  refine opD ho fun x y H Q ⟨F, d, e, z, s, r1, r2, h, q⟩ => ?_
  cases d <;> cases e <;> simp only [dI] at h <;> first | cases h | skip
  cases r1.int; cases r2.int; exact ⟨_, _, rfl, rfl, q _ F H (Al.refl s) (.bl _)⟩
theorem ow_eqP (hu : X.A.units + 64 < cLine) : OpR X (compareOp .Eq) (rD2 X.K dEqP) := by
  refine opD (op_eqD hu) fun x y H Q ⟨F, d, e, z, s, r1, r2, h, q⟩ => ?_
  unfold dEqP at h
  cases p1 : d.py with
  | none => rw [p1] at h; cases h
  | some p => cases p2 : e.py with
    | none => rw [p1, p2] at h; cases h
    | some p' =>
      rw [p1, p2] at h
      have h : (if SeqAt.shaped p = true ∧ SeqAt.shaped p' = true then some (D.bl (PyData.eqv p p')) else none) = some z := h
      by_cases c : SeqAt.shaped p = true ∧ SeqAt.shaped p' = true
      · rw [if_pos c] at h; cases h
        exact ⟨p, p', r1.dp s p1, r2.dp s p2, c.1, c.2, q _ F H (Al.refl s) (.bl _)⟩
      · rw [if_neg c] at h; cases h
theorem ow_neP (hu : X.A.units + 64 < cLine) : OpR X (compareOp .NotEq) (rD2 X.K dNeP) := by
  refine opD (op_neD hu) fun x y H Q ⟨F, d, e, z, s, r1, r2, h, q⟩ => ?_
  unfold dNeP at h
  cases p1 : d.py with
  | none => rw [p1] at h; cases h
  | some p => cases p2 : e.py with
    | none => rw [p1, p2] at h; cases h
    | some p' =>
      rw [p1, p2] at h
      have h : (if SeqAt.shaped p = true ∧ SeqAt.shaped p' = true then some (D.bl (!PyData.eqv p p')) else none) = some z := h
      by_cases c : SeqAt.shaped p = true ∧ SeqAt.shaped p' = true
      · rw [if_pos c] at h; cases h
        exact ⟨p, p', r1.dp s p1, r2.dp s p2, c.1, c.2, q _ F H (Al.refl s) (.bl _)⟩
      · rw [if_neg c] at h; cases h
theorem dEq_cases {d e z : D} (h : dEq d e = some z) : (∃ x y, d = .str x ∧ e = .str y ∧ z = .bl (decide (x = y))) ∨ dEqP d e = some z := by
  unfold dEq at h
  split at h
  · cases h; exact .inl ⟨_, _, rfl, rfl, rfl⟩
  · exact .inr h
theorem dNe_cases {d e z : D} (h : dNe d e = some z) : (∃ x y, d = .str x ∧ e = .str y ∧ z = .bl (!decide (x = y))) ∨ dNeP d e = some z := by
  unfold dNe at h
  split at h
  · cases h; exact .inl ⟨_, _, rfl, rfl, rfl⟩
  · exact .inr h
theorem dec_strV {a b : Str} : decide (V.str a = V.str b) = decide (a = b) := by
  by_cases h : a = b
  · subst h; simp
  · simp [h]
theorem ow_eq (hu : X.A.units + 64 < cLine) : OpR X (compareOp .Eq) (rD2 X.K dEq) := fun pins s σ H x y v u Q I rx ry ⟨F, d, e, z, sb, r1, r2, h, q⟩ => by
  rcases dEq_cases h with ⟨a, b, rfl, rfl, rfl⟩ | h
  · cases r1.str; cases r2.str
    exact op_eq pins s σ H _ _ v u Q I rx ry ⟨rfl, by rw [dec_strV]; exact q _ F H (Al.refl sb) (.bl _)⟩
  · exact ow_eqP hu pins s σ H x y v u Q I rx ry ⟨F, d, e, z, sb, r1, r2, h, q⟩
theorem ow_ne (hu : X.A.units + 64 < cLine) : OpR X (compareOp .NotEq) (rD2 X.K dNe) := fun pins s σ H x y v u Q I rx ry ⟨F, d, e, z, sb, r1, r2, h, q⟩ => by
  rcases dNe_cases h with ⟨a, b, rfl, rfl, rfl⟩ | h
  · cases r1.str; cases r2.str
    exact op_ne pins s σ H _ _ v u Q I rx ry ⟨rfl, by rw [dec_strV]; exact q _ F H (Al.refl sb) (.bl _)⟩
  · exact ow_neP hu pins s σ H x y v u Q I rx ry ⟨F, d, e, z, sb, r1, r2, h, q⟩
end
end Cq

set_option Elab.async false
set_option linter.all false
set_option maxRecDepth 100000
namespace Cq
open PySem PySem.Spec PyProof.Rows L2
/-! ### in, subscripts, slices -/
def anyEq (d : D) (es : List D) : Option D := match d.py, pyL es with
  | some p, some ps => if SeqAt.shaped p = true ∧ SeqAt.shaped (.list ps) = true then some (.bl (ps.any fun z => PyData.eqv z p)) else none
  | _, _ => none
def flatD : D → Bool
  | .int _ => true
  | .str _ => true
  | .bl _ => true
  | .non => true
  | _ => false
def eqF : D → D → Bool
  | .non, .non => true
  | .bl a, .bl b => a == b
  | .bl a, .int j => (if a then 1 else 0) == j
  | .int i, .bl b => i == (if b then 1 else 0)
  | .int i, .int j => decide (i = j)
  | .str x, .str y => decide (x = y)
  | _, _ => false
def oneSign (x : Str) : Option Nat := match x.cps.toList with
  | [c] => some c
  | _ => none
/-- x in a tuple of flat things, in a list of data, a sign in a text -/
def dIn : D → D → Option D
  | d, .tup es => if flatD d = true ∧ es.all flatD = true then some (.bl (es.any fun z => eqF z d)) else none
  | d, .lst es => anyEq d es
  | .str x, .str y => match oneSign x with
    | some c => some (.bl (decide (c ∈ y.cps.toList)))
    | none => none
  | _, _ => none
def dIx : D → D → Option D
  | .lst xs, .int i => atI xs i
  | .tup xs, .int i => atI xs i
  | .scr ns, .int i => (atI ns i).map .int
  | .str z, .int i => if z.length ≤ 1000000 then (atI z.cps.toList i).map fun c => .str ⟨#[c]⟩ else none
  | _, _ => none
def cutD (xs : List D) (lo hi : Option Int) : List D := (xs.drop (HT.sIx xs.length 0 lo)).take (HT.sIx xs.length xs.length hi - HT.sIx xs.length 0 lo)
def dSl : D → Option Int → Option Int → Option D
  | .tup xs, lo, hi => some (.tup (cutD xs lo hi))
  | .lst xs, lo, hi => some (.lst (cutD xs lo hi))
  | .str z, lo, hi => if z.length ≤ 1000000 then some (.str (Txt.slice z lo hi)) else none
  | _, _, _ => none
section
variable {X : Cx} {W : WX} {pos : Pos} {σ : L2.St} {F H F0 H0 : Hp} {g g0 : Gm}
theorem flat_rep {K : Frag} {v : V} {d : D} (r : Rep K F v d) (f : flatD d = true) : flatV v = true := by
  cases r <;> first | rfl | cases f
theorem flat_eq {K : Frag} {v w : V} {d e : D} (r : Rep K F v d) (q : Rep K F w e) (f : flatD d = true) (f' : flatD e = true) : eqV v w = eqF d e := by
  cases r <;> first | cases f | skip
  all_goals (cases q <;> first | cases f' | skip)
  all_goals first | rfl | (simp [eqV, eqF])
theorem flat_all {K : Frag} : ∀ {vs : List V} {ds : List D}, Reps K F vs ds → ds.all flatD = true → vs.all flatV = true
  | _, _, .nil, _ => rfl
  | _, d :: ds, .cons r t, h => by
    simp only [List.all_cons, Bool.and_eq_true] at h ⊢
    exact ⟨flat_rep r h.1, flat_all t h.2⟩
theorem flat_any {K : Frag} {v : V} {d : D} (r : Rep K F v d) (f : flatD d = true) : ∀ {vs : List V} {ds : List D}, Reps K F vs ds → ds.all flatD = true → (vs.any fun y => eqV y v) = ds.any fun z => eqF z d
  | _, _, .nil, _ => rfl
  | _, e :: ds, .cons q t, h => by
    simp only [List.all_cons, Bool.and_eq_true] at h
    simp only [List.any_cons]
    rw [flat_eq q r h.1 f, flat_any r f t h.2]
theorem rov_flat {K : Frag} {v : V} {d : D} (r : RoV K F H v d) (f : flatD d = true) : Rep K F v d := by
  rcases r with r | ⟨a, rfl, c, _⟩
  · exact r
  · cases d <;> first | exact c.elim | cases f
theorem one_sign {x : Str} {c : Nat} (h : oneSign x = some c) : x = ⟨#[c]⟩ := by
  unfold oneSign at h
  cases q : x.cps.toList with
  | nil => rw [q] at h; cases h
  | cons a t => cases t with
    | nil =>
      rw [q] at h; cases h
      cases x with
      | mk cps => exact congrArg Str.mk (Array.toList_inj.mp (by simpa using q))
    | cons _ _ => rw [q] at h; cases h
theorem ow_in (hu : X.A.units + 65 < cLine) : OpR X (compareOp .In) (rD2 X.K dIn) := by
  refine opD (OpR.or op_in_seq (OpR.or (op_inD hu) op_in_sign)) fun x y H Q ⟨F, d, e, z, s, r1, r2, h, q⟩ => ?_
  have A := Al.refl s
  cases e with
  | tup es =>
    simp only [dIn] at h
    by_cases c : flatD d = true ∧ es.all flatD = true
    · rw [if_pos c] at h; cases h
      obtain ⟨p, vs, rfl, k1, k2, _⟩ := r2.tup s
      have r := rov_flat r1 c.1
      refine .inl ⟨p, vs, rfl, .inr k1, flat_rep r c.1, flat_all k2 c.2, ?_⟩
      show Q (.bl (inV x vs)) H
      rw [show inV x vs = es.any fun z => eqF z d from flat_any r c.1 k2 c.2]
      exact q _ F H A (.bl _)
    · rw [if_neg c] at h; cases h
  | lst es =>
    have h : anyEq d es = some z := by cases d <;> exact h
    unfold anyEq at h
    cases p1 : d.py with
    | none => rw [p1] at h; cases h
    | some p => cases p2 : pyL es with
      | none => rw [p1, p2] at h; cases h
      | some ps =>
        rw [p1, p2] at h
        have h : (if SeqAt.shaped p = true ∧ SeqAt.shaped (.list ps) = true then some (D.bl (ps.any fun z => PyData.eqv z p)) else none) = some z := h
        by_cases c : SeqAt.shaped p = true ∧ SeqAt.shaped (.list ps) = true
        · rw [if_pos c] at h; cases h
          exact .inr (.inl ⟨p, ps, r1.dp s p1, r2.dp s (by simp only [D.py, p2]; rfl), c.1, c.2, q _ F H A (.bl _)⟩)
        · rw [if_neg c] at h; cases h
  | str y' =>
    cases d with
    | str x' =>
      simp only [dIn] at h
      cases o : oneSign x' with
      | none => rw [o] at h; cases h
      | some c =>
        rw [o] at h; cases h
        cases r1.str; cases r2.str
        rw [one_sign o]
        exact .inr (.inr ⟨c, y', rfl, rfl, q _ F H A (.bl _)⟩)
    | _ => simp [dIn] at h
  | _ => cases d <;> simp [dIn] at h
theorem atI_rep {K : Frag} {vs : List V} {ds : List D} {i : Int} {d : D} (r : Reps K F vs ds) (h : atI ds i = some d) : ∃ v, atI vs i = some v ∧ Rep K F v d := by
  unfold atI at h ⊢
  rw [r.length]
  cases o : ixN ds.length i with
  | none => rw [o] at h; cases h
  | some j =>
    rw [o] at h
    obtain ⟨v, h1, h2⟩ := r.getV (show ds[j]? = some d from h)
    exact ⟨v, h1, h2⟩
theorem ow_ix : IxR X (rD2 X.K dIx) := by
  intro value slice pins s σ H x y v u Q I rx ry h hs
  refine ix_seq value slice pins s σ H x y v u Q I rx ry ?_ hs
  obtain ⟨F, d, e, z, sb, r1, r2, h, q⟩ := h
  have A := Al.refl sb
  cases e with
  | int i =>
    cases r2.int
    cases d with
    | lst ds =>
      obtain ⟨p, vs, rfl, k1, k2⟩ := r1.lst sb
      obtain ⟨w, h1, h2⟩ := atI_rep k2 h
      exact .inl ⟨p, vs, i, w, rfl, rfl, .inl (.inl k1), h1, q w F H A h2⟩
    | tup ds =>
      obtain ⟨p, vs, rfl, k1, k2, _⟩ := r1.tup sb
      obtain ⟨w, h1, h2⟩ := atI_rep k2 h
      exact .inr (.inl ⟨p, vs, i, w, rfl, rfl, k1, h1, q w F H A h2⟩)
    | scr ns =>
      simp only [dIx] at h
      cases o : atI ns i with
      | none => rw [o] at h; cases h
      | some n =>
        rw [o] at h; cases h
        rcases r1 with r1 | ⟨a, rfl, c, _⟩
        · cases r1 with
          | scr hq =>
            have : atI (ns.map V.int) i = some (.int n) := by
              unfold atI at o ⊢
              rw [List.length_map]
              cases o2 : ixN ns.length i with
              | none => rw [o2] at o; cases o
              | some j => rw [o2] at o; show (ns.map V.int)[j]? = _; rw [List.getElem?_map, show ns[j]? = some n from o]; rfl
            exact .inl ⟨_, _, i, _, rfl, rfl, sb.seq hq, this, q _ F H A (.int n)⟩
        · exact c.elim
    | str z' =>
      simp only [dIx] at h
      by_cases l : z'.length ≤ 1000000
      · rw [if_pos l] at h
        cases o : atI z'.cps.toList i with
        | none => rw [o] at h; cases h
        | some c =>
          rw [o] at h; cases h
          cases r1.str
          exact .inr (.inr ⟨z', i, c, rfl, rfl, line_le l, o, q _ F H A (.str _)⟩)
      · rw [if_neg l] at h; cases h
    | _ => simp [dIx] at h
  | _ => cases d <;> simp [dIx] at h
/-- a slice's bounds -/
def relP : Rl (Option Int) (Option Int) := fun _ _ _ _ _ a b => a = b
def SPo (X : Cx) (W : WX) (e : Option Expr) (m : M (Option Int)) : Prop := PO X e (tG X.K W relP m)
theorem PO_imp {e : Option Expr} {t t' : TO} (h : PO X e t) (k : ∀ σ H Q, t' σ H Q → t σ H Q) : PO X e t' := ⟨fun pins s σ H Q I q => h.run pins s σ H Q I (k σ H Q q)⟩
theorem spo_none : SPo X W none (M.ret none) := PO_imp po_none fun σ H Q q => by
  obtain ⟨F, g, S, q⟩ := q
  exact q none F H S Stp.refl rfl
def dSome : D → M (Option Int)
  | .int i => M.ret (some i)
  | _ => M.fail
theorem spo_some {e : Expr} {m : M D} (h : SE X W e m) : SPo X W (some e) (m.bind dSome) := PO_imp (po_some h) fun σ H Q q => by
  obtain ⟨F, g, S, q⟩ := q
  refine ⟨F, g, S, Pst_bind Stp.refl q fun d v F1 H1 g1 S1 P1 P01 r1 q1 => ?_⟩
  have r1 : Rep X.K F1 v d := r1
  cases d with
  | int i => cases r1; exact ⟨i, rfl, q1 _ F1 H1 S1 P01 rfl⟩
  | _ => exact q1.elim
def mSl (ma : M Hd) (ml mh : M (Option Int)) : M D := ma.bind fun a => ml.bind fun lo => mh.bind fun hi => mF1 (fun d => dSl d lo hi) a
theorem cut_rep {K : Frag} {vs : List V} {ds : List D} {lo hi : Option Int} (r : Reps K F vs ds) : Reps K F (cutV vs lo hi) (cutD ds lo hi) := by
  unfold cutV cutD
  rw [r.length]
  exact (r.drop _).take _
theorem se_slice {e : Expr} {lo hi : Option Expr} {p2 : Pos} {ma : M Hd} {ml mh : M (Option Int)} (he : SO X W e ma) (hl : SPo X W lo ml) (hu : SPo X W hi mh) : SE X W (.Subscript e (.Slice lo hi none p2) pos) (mSl ma ml mh) :=
  PE_imp (pe_slice (SlR.or sl_tupA (SlR.or sl_list C8.sl_txt)) he hl hu) fun σ H Q q => by
    obtain ⟨F, g, S, q⟩ := q
    refine ⟨F, g, S, Pst_bind Stp.refl q fun h v F1 H1 g1 S1 P1 P01 r1 q1 => ⟨F1, g1, S1, Pst_bind P01 q1 fun lo l F2 H2 g2 S2 P2 P02 r2 q2 => ⟨F2, g2, S2, Pst_bind P02 q2 fun hi u F3 H3 g3 S3 P3 P03 r3 q3 => ?_⟩⟩⟩
    cases (show lo = l from r2)
    cases (show hi = u from r3)
    obtain ⟨F4, d, z, sb, r, hz, k⟩ := f1_ok S3 P03 (HdR.mono (P2.fg.trans P3.fg) r1) q3
    cases d with
    | tup ds =>
      simp only [dSl] at hz; cases hz
      obtain ⟨p, vs, rfl, k1, k2, k3⟩ := r.tup sb
      refine .inl ⟨p, vs, rfl, k1, fun e => ?_, fun _ t nt => ?_⟩
      · have : cutD ds lo hi = ds := by
          unfold cutD
          rw [← k2.length, e.1, e.2]
          simp [k2.length]
        rw [this] at k
        exact k _ F4 H3 (Al.refl sb) k3
      · obtain ⟨A', r'⟩ := al_tup (X := X) sb nt (cut_rep k2)
        exact k _ _ _ A' r'
    | lst ds =>
      simp only [dSl] at hz; cases hz
      obtain ⟨p, vs, rfl, k1, k2⟩ := r.lst sb
      refine .inr (.inl ⟨p, vs, rfl, .inl (.inl k1), fun t nt => ?_⟩)
      obtain ⟨A', r'⟩ := al_lst (X := X) sb nt (cut_rep k2)
      exact k _ _ _ A' r'
    | str z' =>
      simp only [dSl] at hz
      by_cases l : z'.length ≤ 1000000
      · rw [if_pos l] at hz; cases hz
        cases r.str
        exact .inr (.inr ⟨z', rfl, line_le l, k _ F4 H3 (Al.refl sb) (.str _)⟩)
      · rw [if_neg l] at hz; cases hz
    | _ => simp [dSl] at hz
/-! ### calls of built-ins -/
theorem callD {u : Value} {r r' : List V → Hp → VK → Prop} (hc : CallR X u r) (k : ∀ xs H Q, r' xs H Q → r xs H Q) : CallR X u r' := fun pins s σ H vs us Q I rv h => hc pins s σ H vs us Q I rv (k vs H Q h)
variable {e : Expr} {es : List Expr} {x : Str} {p : Pos} {bid T : String} {f : List D → Option D} {ma : M (List Hd)}
theorem se_callB (hc : CallR X (.builtin bid) (rDs X.K f)) (hg : Gl X x) (hm : X.mg x = none) (hv : bootBuiltins x = some (.builtin bid)) (ha : SA X W (e :: es) ma) (hn : x ≠ "__name__" := by decide) (hdb : (x == ("__debug__" : Str)) = false := by decide)
    (he : starEach (e :: es) X.env = (false, eval e X.env) :: starEach es X.env := by rfl) (hpl : (backTo pos (starEach es X.env)).any (·.1) = false := by rfl) : SE X W (.Call (.Name x p) (e :: es) [] pos) (mCall f ma) :=
  PE_imp (pe_callB hc hg hm hv ha hn hdb he hpl) fun σ H Q q => by
    obtain ⟨F, g, S, q⟩ := q
    exact ⟨F, g, S, Pst_bind Stp.refl q fun hs vs F1 H1 g1 S1 P1 P01 r1 q1 => fs_ok S1 P01 r1 q1⟩
theorem sn_callB (hc : CallR X (.builtin bid) (rNs X.K f)) (hg : Gl X x) (hm : X.mg x = none) (hv : bootBuiltins x = some (.builtin bid)) (ha : SA X W (e :: es) ma) (hn : x ≠ "__name__" := by decide) (hdb : (x == ("__debug__" : Str)) = false := by decide)
    (he : starEach (e :: es) X.env = (false, eval e X.env) :: starEach es X.env := by rfl) (hpl : (backTo pos (starEach es X.env)).any (·.1) = false := by rfl) : SN X W (.Call (.Name x p) (e :: es) [] pos) (mCall f ma) :=
  PE_imp (pe_callB hc hg hm hv ha hn hdb he hpl) fun σ H Q q => by
    obtain ⟨F, g, S, q⟩ := q
    exact ⟨F, g, S, Pst_bind Stp.refl q fun hs vs F1 H1 g1 S1 P1 P01 r1 q1 => fsN_ok S1 P01 r1 q1⟩
theorem se_callTy (hc : CallR X (.type T) (rDs X.K f)) (hg : Gl X x) (hm : X.mg x = none) (hv : bootBuiltins x = some (.type T)) (ha : SA X W (e :: es) ma) (hn : x ≠ "__name__" := by decide) (hdb : (x == ("__debug__" : Str)) = false := by decide)
    (he : starEach (e :: es) X.env = (false, eval e X.env) :: starEach es X.env := by rfl) (hpl : (backTo pos (starEach es X.env)).any (·.1) = false := by rfl) : SE X W (.Call (.Name x p) (e :: es) [] pos) (mCall f ma) :=
  PE_imp (pe_callTy hc hg hm hv ha hn hdb he hpl) fun σ H Q q => by
    obtain ⟨F, g, S, q⟩ := q
    exact ⟨F, g, S, Pst_bind Stp.refl q fun hs vs F1 H1 g1 S1 P1 P01 r1 q1 => fs_ok S1 P01 r1 q1⟩
theorem sn_callTy (hc : CallR X (.type T) (rNs X.K f)) (hg : Gl X x) (hm : X.mg x = none) (hv : bootBuiltins x = some (.type T)) (ha : SA X W (e :: es) ma) (hn : x ≠ "__name__" := by decide) (hdb : (x == ("__debug__" : Str)) = false := by decide)
    (he : starEach (e :: es) X.env = (false, eval e X.env) :: starEach es X.env := by rfl) (hpl : (backTo pos (starEach es X.env)).any (·.1) = false := by rfl) : SN X W (.Call (.Name x p) (e :: es) [] pos) (mCall f ma) :=
  PE_imp (pe_callTy hc hg hm hv ha hn hdb he hpl) fun σ H Q q => by
    obtain ⟨F, g, S, q⟩ := q
    exact ⟨F, g, S, Pst_bind Stp.refl q fun hs vs F1 H1 g1 S1 P1 P01 r1 q1 => fsN_ok S1 P01 r1 q1⟩
def dLen : List D → Option D
  | [.lst xs] => some (.int xs.length)
  | [.tup xs] => some (.int xs.length)
  | [.scr ns] => some (.int ns.length)
  | [.str z] => if z.length ≤ 1000000 then some (.int z.length) else none
  | _ => none
theorem rovs1 {K : Frag} {xs : List V} {d : D} (r : RoVs K F H xs [d]) : ∃ v, xs = [v] ∧ RoV K F H v d := by
  cases r with
  | cons a b => cases b; exact ⟨_, rfl, a⟩
theorem rovs2 {K : Frag} {xs : List V} {d e : D} (r : RoVs K F H xs [d, e]) : ∃ v w, xs = [v, w] ∧ RoV K F H v d ∧ RoV K F H w e := by
  cases r with
  | cons a b => cases b with
    | cons b c => cases c; exact ⟨_, _, rfl, a, b⟩
theorem one_arg {α β : Type} {f : List α → Option β} {ds : List α} {z : β} (h : f ds = some z) (n0 : f [] = none) (n2 : ∀ a b r, f (a :: b :: r) = none) : ∃ d, ds = [d] := by
  cases ds with
  | nil => rw [n0] at h; cases h
  | cons a t => cases t with
    | nil => exact ⟨a, rfl⟩
    | cons b r => rw [n2] at h; cases h
theorem cw_len : CallR X (.builtin "len") (rDs X.K dLen) := by
  refine callD (CallR.or call_len_seq call_len_str) fun xs H Q ⟨F, ds, z, s, r, h, q⟩ => ?_
  have A := Al.refl s
  obtain ⟨d, rfl⟩ := one_arg h rfl fun a b r => by cases a <;> rfl
  obtain ⟨v, rfl, k0⟩ := rovs1 r
  clear r
  have r := k0
  cases d with
  | lst ds =>
    cases h
    obtain ⟨p, vs, rfl, k1, k2⟩ := r.lst s
    exact .inl ⟨p, vs, rfl, .inl (.inl (.inl k1)), by rw [k2.length]; exact q _ F H A (.int _)⟩
  | tup ds =>
    cases h
    obtain ⟨p, vs, rfl, k1, k2, _⟩ := r.tup s
    exact .inl ⟨p, vs, rfl, .inr k1, by rw [k2.length]; exact q _ F H A (.int _)⟩
  | scr ns =>
    cases h
    rcases r with r | ⟨a, rfl, c, _⟩
    · cases r with
      | scr hq => exact .inl ⟨_, _, rfl, .inl (s.seq hq), by rw [List.length_map]; exact q _ F H A (.int _)⟩
    · exact c.elim
  | str z' =>
    simp only [dLen] at h
    by_cases l : z'.length ≤ 1000000
    · rw [if_pos l] at h; cases h
      cases r.str
      exact .inr ⟨z', rfl, line_le l, q _ F H A (.int _)⟩
    · rw [if_neg l] at h; cases h
  | _ => cases h
def dTuple : List D → Option D
  | [.lst xs] => some (.tup xs)
  | [.tup xs] => some (.tup xs)
  | _ => none
def dList : List D → Option D
  | [.lst xs] => some (.lst xs)
  | [.tup xs] => some (.lst xs)
  | _ => none
theorem cw_tuple : CallR X (.type "tuple") (rDs X.K dTuple) := by
  refine callD call_tuple_of fun xs H Q ⟨F, ds, z, s, r, h, q⟩ => ?_
  obtain ⟨d, rfl⟩ := one_arg h rfl fun a b r => by cases a <;> rfl
  obtain ⟨v, rfl, k0⟩ := rovs1 r
  clear r
  have r := k0
  cases d with
  | lst ds =>
    cases h
    obtain ⟨p, vs, rfl, k1, k2⟩ := r.lst s
    refine ⟨p, vs, rfl, .inl ⟨.inl (.inl k1), fun t nt => ?_⟩⟩
    obtain ⟨A', r'⟩ := al_tup (X := X) s nt k2
    exact q _ _ _ A' r'
  | tup ds =>
    cases h
    obtain ⟨p, vs, rfl, k1, k2, k3⟩ := r.tup s
    exact ⟨p, vs, rfl, .inr ⟨k1, q _ F H (Al.refl s) k3⟩⟩
  | _ => cases h
theorem new_lst {vs : List V} {ds : List D} {p : Addr} (s : Sub F H) (n : H p = none) (r : Reps X.K F vs ds) : Al F H F (upd H p (.lst vs)) ∧ Cell X.K F (upd H p (.lst vs)) p (.lst ds) ∧ ∀ x, Foot (upd H p (.lst vs)) p x → H x = none ∧ F x = none :=
  ⟨Al.mkN s n, ⟨vs, upd_same, r⟩, fun x f => by cases foot_upd (o := HO.lst vs) (fun _ _ _ z => nomatch z) f; exact ⟨n, sub_none s n⟩⟩
theorem cw_list : CallR X (.type "list") (rNs X.K dList) := by
  refine callD call_list_of fun xs H Q ⟨F, ds, z, s, r, h, q⟩ => ?_
  obtain ⟨d, rfl⟩ := one_arg h rfl fun a b r => by cases a <;> rfl
  obtain ⟨v, rfl, k0⟩ := rovs1 r
  clear r
  have r := k0
  cases d with
  | lst ds =>
    cases h
    obtain ⟨p, vs, rfl, k1, k2⟩ := r.lst s
    refine ⟨p, vs, rfl, .inl (.inl (.inl k1)), fun t nt => ?_⟩
    obtain ⟨A', c', n'⟩ := new_lst (X := X) s nt k2
    exact q _ _ _ A' c' n'
  | tup ds =>
    cases h
    obtain ⟨p, vs, rfl, k1, k2, k3⟩ := r.tup s
    refine ⟨p, vs, rfl, .inr k1, fun t nt => ?_⟩
    obtain ⟨A', c', n'⟩ := new_lst (X := X) s nt k2
    exact q _ _ _ A' c' n'
  | _ => cases h
def dAll : List D → Option D
  | [.lst xs] => (blsOf xs).map fun bs => .bl (bs.all id)
  | _ => none
theorem cw_all (hc : X.calm = true) : CallR X (.builtin "all") (rDs X.K dAll) := by
  refine callD (cr_all hc) fun xs H Q ⟨F, ds, z, s, r, h, q⟩ => ?_
  obtain ⟨d, rfl⟩ := one_arg h rfl fun a b r => by cases a <;> rfl
  obtain ⟨v, rfl, k0⟩ := rovs1 r
  clear r
  have r := k0
  cases d with
  | lst ds =>
    simp only [dAll] at h
    cases o : blsOf ds with
    | none => rw [o] at h; cases h
    | some bs =>
      rw [o] at h; cases h
      obtain ⟨p, vs, rfl, k1, k2⟩ := r.lst s
      rw [blsOf_ok o] at k2
      exact ⟨p, bs, rfl, .inl (.inl (by rw [← k2.bools]; exact k1)), q _ F H (Al.refl s) (.bl _)⟩
  | _ => cases h
def dMax2 : List D → Option D
  | [.int i, .int j] => some (.int (max i j))
  | _ => none
def dMin2 : List D → Option D
  | [.int i, .int j] => some (.int (min i j))
  | _ => none
theorem two_arg {α β : Type} {f : List α → Option β} {ds : List α} {z : β} (h : f ds = some z) (n0 : f [] = none) (n1 : ∀ a, f [a] = none) (n2 : ∀ a b c r, f (a :: b :: c :: r) = none) : ∃ d e, ds = [d, e] := by
  cases ds with
  | nil => rw [n0] at h; cases h
  | cons a t => cases t with
    | nil => rw [n1] at h; cases h
    | cons b r => cases r with
      | nil => exact ⟨a, b, rfl⟩
      | cons c r => rw [n2] at h; cases h
theorem cw_max2 (hc : X.calm = true) : CallR X (.builtin "max") (rDs X.K dMax2) := by
  refine callD (call_max2 hc) fun xs H Q ⟨F, ds, z, s, r, h, q⟩ => ?_
  obtain ⟨d, e, rfl⟩ := two_arg h rfl (fun a => by cases a <;> rfl) fun a b c r => by cases a <;> cases b <;> rfl
  obtain ⟨v, w, rfl, k0, k1⟩ := rovs2 r
  clear r
  have r := k0
  have r' := k1
  cases d <;> cases e <;> simp only [dMax2] at h <;> first | cases h | skip
  rename_i i j
  cases r.int; cases r'.int
  refine ⟨i, j, rfl, ?_⟩
  rw [show (if j > i then j else i) = max i j by split <;> omega]
  exact q _ F H (Al.refl s) (.int _)
theorem cw_min2 (hc : X.calm = true) : CallR X (.builtin "min") (rDs X.K dMin2) := by
  refine callD (call_min2 hc) fun xs H Q ⟨F, ds, z, s, r, h, q⟩ => ?_
  obtain ⟨d, e, rfl⟩ := two_arg h rfl (fun a => by cases a <;> rfl) fun a b c r => by cases a <;> cases b <;> rfl
  obtain ⟨v, w, rfl, k0, k1⟩ := rovs2 r
  clear r
  have r := k0
  have r' := k1
  cases d <;> cases e <;> simp only [dMin2] at h <;> first | cases h | skip
  rename_i i j
  cases r.int; cases r'.int
  refine ⟨i, j, rfl, ?_⟩
  rw [show (if j < i then j else i) = min i j by split <;> omega]
  exact q _ F H (Al.refl s) (.int _)
def dStr : List D → Option D
  | [.int i] => if i.natAbs < 2 ^ 64 then some (.str (toString i : String)) else none
  | [.str z] => some (.str z)
  | _ => none
theorem log64 {i : Int} (h : i.natAbs < 2 ^ 64) : i.natAbs.log2 < 1920 := Nat.lt_trans (PySem.Flt.log2_lt_of (by decide : 0 < 64) h) (by decide)
def dInt : List D → Option D
  | [.str z] => if z.length ≤ 640 then (PySem.intText? z).map .int else none
  | _ => none
end
end Cq

set_option Elab.async false
set_option linter.all false
set_option maxRecDepth 100000
namespace Cq.S
open PySem PySem.W PySem.Calls PyProof.Rows
section
variable {prog : Program} {w : World} {A : Around} {E : Value → Shared → Prop} {s : Shared} {β : Type} {vs : List Value} {bs : List β} {enc : β → PyData} {R : Value → β → Prop}
/-! sorted(xs), xs a tuple -/
theorem collect_tup {l : Addr} {Q : List Value → Shared → Prop} (hl : s.heap.IsTuple l vs.toArray)
    (h : Q vs { s with heap := (s.heap.push (seqObj "list" #[] 0)).update s.heap.objs.size (Obj.mapSeq (· ++ vs.toArray)) }) (hsz : vs.length ≤ sizeLine) :
    wpAny (model prog w) A (collect (.ref l)) Q E s := by
  obtain ⟨o, ho, hc, n, hd⟩ := id hl
  unfold collect
  refine wpAny_bind (wpAny_runValue (codeAny_builtin entry_proto_collect' ?_))
  show wpAny _ _ (do again (.builtin "list.__iadd__" ⟨[← newList [], .ref l], []⟩)) _ _ s
  refine wpAny_bind (wpAny_newList (wpAny_pure ⟨Code.quiet_builtin _ (by decide +kernel), codeAny_builtin entry_list_iadd' ?_⟩))
  show wpAny _ _ (Builtin.List.listExtendWith (.ref s.heap.objs.size) (.ref l) (.ref s.heap.objs.size)) _ _ { s with heap := s.heap.push (seqObj "list" #[] 0) }
  unfold Builtin.List.listExtendWith
  have ho' : (s.heap.push (seqObj "list" #[] 0)).get? l = some o := Heap.get?_push_of_some _ ho
  refine wpAny_bind (wpAny_typeOf (T := "tuple") ⟨o, ho', hc⟩ ?_)
  have ht : (Value.type "tuple" == Value.type "tuple") = true := by rfl
  rw [if_pos (by rw [ht]; simp)]
  refine wpAny_bind (listItems_at ho' hd ?_)
  refine wpAny_bind (listItems_at (xs := #[]) (n := 0) (Heap.get?_push_size _ rfl) rfl ?_)
  rw [if_neg (by simp)]
  refine wpAny_bind (listUpdate_at (xs := #[]) (n := 0) (Heap.get?_push_size _ rfl) rfl ?_ (Nat.zero_le _) (by show (#[] ++ vs.toArray).size ≤ sizeLine + 1; simp only [Array.size_append, List.size_toArray, List.length_nil]; omega))
  refine wpAny_pure ?_
  show wpAny (model prog w) A (do
      let o ← load s.heap.objs.size
      match o.data with
      | .seq xs _ => pure xs.toList
      | _ => unsupported "internal:collect") Q E { s with heap := (s.heap.push (seqObj "list" #[] 0)).update s.heap.objs.size (Obj.mapSeq (· ++ vs.toArray)) }
  refine wpAny_bind (wpAny_load (get?_update_seq (Heap.get?_push_size _ rfl) _) ?_)
  show wpAny _ _ (pure ((#[] : Array Value) ++ vs.toArray).toList) Q E _
  rw [show ((#[] : Array Value) ++ vs.toArray).toList = vs by simp]
  exact wpAny_pure h
theorem sorted_of_sortT {l : Addr} {kw : List (Str × Value)} {Q : Value → Shared → Prop} (hl : s.heap.IsTuple l vs.toArray) (hL : vs.length ≤ sizeLine) (ha1 : argsOk "sorted" ⟨[.ref l], kw⟩) (ha2 : ∀ x, argsOk "list.sort" ⟨[.ref x], kw⟩)
    (body : ∀ E' : Value → Shared → Prop, wpAny (model prog w) A.in1.in1 (Builtin.«list.sort» ⟨[.ref (s.heap.objs.size + 1)], kw⟩) (fun f s' => f = .done (.ret .none) ∧ Q (.ref (s.heap.objs.size + 1)) s') E' { s with heap := copyHeap s.heap vs }) :
    wpAny (model prog w) A (call (.builtin "sorted") [.ref l] kw) Q E s := by
  refine call_function_entry_kw kind_sorted plain_sorted entry_sorted ha1 ?_
  unfold Builtin.«sorted»
  refine wpAny_bind (m := checkCount "sorted" 1 1 _) (wpAny_pure ?_)
  refine wpAny_bind (collect_tup hl ?_ hL)
  refine wpAny_bind (wpAny_newList ?_ hL)
  have hsz : ((s.heap.push (seqObj "list" #[] 0)).update s.heap.objs.size (Obj.mapSeq (· ++ vs.toArray))).objs.size = s.heap.objs.size + 1 := by
    rw [Heap.size_update, size_push']
  show wpAny _ _ _ _ _ { s with heap := copyHeap s.heap vs }
  rw [hsz]
  refine wpAny_bind (wpAny_holding (wpAny_call_entry_kw slot_list_sort ⟨_, copyHeap_at s.heap vs, rfl⟩ entry_list_sort ?body (ha2 _)))
  case body =>
    show wpAny (model prog w) A.in1.in1 (Builtin.«list.sort» ⟨[.ref (s.heap.objs.size + 1)], kw⟩) _ _ _
    refine wpAny_mono (body _) (fun f s' hf => ?_) fun _ _ e => e
    obtain ⟨rfl, hq⟩ := hf
    exact ⟨_, rfl, wpAny_pure ⟨_, rfl, hq⟩⟩
theorem sorted_dataT {l : Addr} {Q : Value → Shared → Prop} (hl : s.heap.IsTuple l vs.toArray) (e : EachIs R vs bs) (er : EachIs (fun v b => ∃ as, Reads s.heap v (enc b) as) vs bs) (hal : AllAlike (bs.map enc)) (hk : Sortable (bs.map enc)) (hL : bs.length ≤ sizeLine)
    (hu : ∀ b, b ∈ bs → A.units + 2 + (enc b).depth < cLine) (h : ∀ out, out.length = bs.length → EachIs R out (bs.mergeSort (dataLe false enc)) → Q (.ref (s.heap.objs.size + 1)) { s with heap := sortedAll s.heap vs (List.toArray out) }) :
    wpAny (model prog w) A (call (.builtin "sorted") [.ref l]) Q E s := by
  have er' : EachIs (fun v b => ∃ as, Reads (sortingHeap (copyHeap s.heap vs) (s.heap.objs.size + 1) vs) v (enc b) as) vs bs := er.mono fun _ _ ⟨as, r⟩ => ⟨as, PyProof.Rows.Reads.keeps (fun _ _ => sorting_copy_old) r⟩
  exact sorted_of_sortT hl (by rw [e.length]; exact hL) (args_sorted1 _) (fun _ => args_list_sort _) fun _ => list_sort_vals (s := { s with heap := copyHeap s.heap vs }) (copyHeap_at s.heap vs)
    (SortsAt.data (s := { s with heap := sortingHeap (copyHeap s.heap vs) (s.heap.objs.size + 1) vs }) (each_map (R := fun v d => ∃ as, Reads (sortingHeap (copyHeap s.heap vs) (s.heap.objs.size + 1) vs) v d as) enc er') hal hk (bound_map hu)) (by rw [e.length]; exact hL)
    ⟨rfl, h _ (by rw [sortVals_length false rfl]; exact e.length) (sortVals_data false e er' hal)⟩
end
end Cq.S

set_option Elab.async false
set_option linter.all false
set_option maxRecDepth 100000
namespace Cq
open PySem PySem.Spec PyProof.Rows L2
/-! ### sorted -/
def pyD (d : D) : PyData := match d.py with
  | some p => p
  | none => .none
def leD (d e : D) : Bool := PySem.W.dataLe false pyD d e
def alikeB (ps : List PyData) : Bool := ps.all fun a => ps.all fun b => PySem.W.alike a b
def tupB : PyData → Bool
  | .tuple (_ :: _) => true
  | _ => false
def othB : PyData → Bool
  | .tuple _ => false
  | .none => false
  | _ => true
def sortB (ps : List PyData) : Bool := alikeB ps && (ps.all tupB || ps.all othB) && ps.all fun p => decide (p.depth ≤ 60)
def dSortL (ds : List D) : Option (List D) := match pyL ds with
  | some ps => if sortB ps = true ∧ ds.length ≤ 1000000 then some (ds.mergeSort leD) else none
  | none => none
def dSorted : List D → Option D
  | [.lst xs] => (dSortL xs).map .lst
  | [.tup xs] => (dSortL xs).map .lst
  | _ => none
section
variable {X : Cx} {W : WX} {pos : Pos} {σ : L2.St} {F H F0 H0 : Hp} {g g0 : Gm}
theorem pyL_map : ∀ {ds : List D} {ps : List PyData}, pyL ds = some ps → ps = ds.map pyD
  | [], _, e => by simp only [pyL] at e; cases e; rfl
  | d :: ds, ps, e => by
    simp only [pyL] at e
    cases q : d.py with
    | none => rw [q] at e; cases e
    | some p => cases q2 : pyL ds with
      | none => rw [q, q2] at e; cases e
      | some qs => rw [q, q2] at e; cases e; rw [pyL_map q2, List.map_cons, show pyD d = p by unfold pyD; rw [q]]
theorem pyL_at : ∀ {ds : List D} {ps : List PyData}, pyL ds = some ps → ∀ d ∈ ds, d.py = some (pyD d)
  | [], _, _, d, h => by cases h
  | d :: ds, ps, e, d', h => by
    simp only [pyL] at e
    cases q : d.py with
    | none => rw [q] at e; cases e
    | some p => cases q2 : pyL ds with
      | none => rw [q, q2] at e; cases e
      | some qs =>
        rcases List.mem_cons.mp h with rfl | h
        · unfold pyD; rw [q]
        · exact pyL_at q2 d' h
theorem reps_zip {K : Frag} : ∀ {vs : List V} {ds : List D}, Reps K F vs ds → ∀ p ∈ vs.zip ds, Rep K F p.1 p.2
  | _, _, .nil, p, h => by cases h
  | _, _, .cons r t, p, h => by
    rcases List.mem_cons.mp h with rfl | h
    · exact r
    · exact reps_zip t p h
theorem reps_of_zip {K : Frag} : ∀ {bs : List (V × D)}, (∀ p ∈ bs, Rep K F p.1 p.2) → Reps K F (bs.map (·.1)) (bs.map (·.2))
  | [], _ => .nil
  | b :: bs, h => .cons (h b List.mem_cons_self) (reps_of_zip fun p hp => h p (List.mem_cons_of_mem _ hp))
theorem each_vals : ∀ {vs : List V} {ds : List D} {us : List Value}, Vals vs us → vs.length = ds.length → PySem.W.EachIs (fun v (b : V × D) => RelV b.1 v) us (vs.zip ds)
  | [], [], _, .nil, _ => .nil
  | v :: vs, d :: ds, _, .cons r t, h => .cons r (each_vals t (by simpa using h))
  | [], _ :: _, _, _, h => by simp at h
  | _ :: _, [], _, _, h => by simp at h
theorem vals_each : ∀ {us : List Value} {bs : List (V × D)}, PySem.W.EachIs (fun v (b : V × D) => RelV b.1 v) us bs → Vals (bs.map (·.1)) us
  | _, _, .nil => .nil
  | _, _, .cons r t => .cons r (vals_each t)
theorem each_reads {pins : List (Addr × Obj)} {s : Shared} (I : Inv X pins σ H s) (sb : Sub F H) : ∀ {us : List Value} {bs : List (V × D)}, PySem.W.EachIs (fun v (b : V × D) => RelV b.1 v) us bs → (∀ p ∈ bs, Rep X.K F p.1 p.2 ∧ p.2.py = some (pyD p.2)) → PySem.W.EachIs (fun v (b : V × D) => ∃ as, Reads s.heap v (pyD b.2) as) us bs
  | _, _, .nil, _ => .nil
  | _, _, .cons (a := u) (b := b) r t, h => .cons (by
      obtain ⟨h1, h2⟩ := h b List.mem_cons_self
      exact Dp.reads I _ _ _ (h1.dp sb h2) r) (each_reads I sb t fun p hp => h p (List.mem_cons_of_mem _ hp))
theorem sorted_go (hu : X.A.units + 64 < cLine) {pins : List (Addr × Obj)} {s : Shared} {Q : VK} {p : Addr} {vs : List V} {its : List Value} {ds : List D} {ps : List PyData} {W' : Value → Shared → Prop} (I : Inv X pins σ H s) (sb : Sub F H) (o : pyL ds = some ps) (c : sortB ps = true ∧ ds.length ≤ 1000000)
    (rv' : Vals vs its) (hl : s.heap.IsList p its.toArray ∨ s.heap.IsTuple p its.toArray) (k2 : Reps X.K F vs ds) (q : ∀ a F' H', Al F H F' H' → Cell X.K F' H' a (.lst (ds.mergeSort leD)) → (∀ x, Foot H' a x → H x = none ∧ F' x = none) → Q (.ref a) H') :
    wpAny (model X.prog X.w) X.A (call (.builtin "sorted") [.ref p]) (EP X pins σ Q) W' s := by
  have hps := pyL_map o
  have hat := pyL_at o
  obtain ⟨c1, c2⟩ := c
  simp only [sortB, Bool.and_eq_true] at c1
  obtain ⟨⟨ca, cs⟩, cd⟩ := c1
  have e1 := each_vals (ds := ds) rv' k2.length
  have hz2 : (vs.zip ds).map (·.2) = ds := List.map_snd_zip (by rw [k2.length]; exact Nat.le_refl _)
  have hmem : ∀ b ∈ vs.zip ds, Rep X.K F b.1 b.2 ∧ b.2.py = some (pyD b.2) := fun b hb => ⟨reps_zip k2 b hb, hat _ (by rw [← hz2]; exact List.mem_map_of_mem hb)⟩
  have e2 := each_reads I sb e1 hmem
  have hm : (vs.zip ds).map (fun b => pyD b.2) = ps := by rw [hps, ← hz2, List.map_map, hz2]; rfl
  have hal : PySem.W.AllAlike ((vs.zip ds).map fun b : V × D => pyD b.2) := by
    rw [hm]
    intro a ha b hb
    exact List.all_eq_true.mp (List.all_eq_true.mp ca a ha) b hb
  have hso : PySem.W.Sortable ((vs.zip ds).map fun b : V × D => pyD b.2) := by
    rw [hm]
    rcases Bool.or_eq_true_iff.mp cs with cs | cs
    · refine .inl fun d hd => ?_
      have t := List.all_eq_true.mp cs d hd
      cases d with
      | tuple xs => cases xs with
        | nil => cases t
        | cons x r => exact ⟨x, r, rfl⟩
      | _ => cases t
    · refine .inr fun d hd => ?_
      have t := List.all_eq_true.mp cs d hd
      match d, t with
      | .list _, _ => exact ⟨nofun, nofun⟩
      | .dict _, _ => exact ⟨nofun, nofun⟩
      | .bool _, _ => exact ⟨nofun, nofun⟩
      | .int _, _ => exact ⟨nofun, nofun⟩
      | .str _, _ => exact ⟨nofun, nofun⟩
  have hlen : (vs.zip ds).length ≤ sizeLine := by
    rw [List.length_zip, k2.length, Nat.min_self]; exact line_le c2
  have hdep : ∀ b, b ∈ vs.zip ds → X.A.units + 2 + (pyD b.2).depth < cLine := fun b hb => by
    have : pyD b.2 ∈ ps := by rw [← hm]; exact List.mem_map_of_mem (f := fun b : V × D => pyD b.2) hb
    have t := of_decide_eq_true (List.all_eq_true.mp cd _ this)
    omega
  have fin : ∀ out : List Value, out.length = (vs.zip ds).length → PySem.W.EachIs (fun v (b : V × D) => RelV b.1 v) out ((vs.zip ds).mergeSort (PySem.W.dataLe false fun b : V × D => pyD b.2)) → EP X pins σ Q (.ref (s.heap.objs.size + 1)) { s with heap := PyProof.Rows.sortedAll s.heap its (List.toArray out) } := fun out h1 h2 => by
    obtain ⟨ep, he'⟩ := PyProof.Rows.sortedAll_at s.heap its out.toArray
    have hvo := vals_each h2
    have hlen : (((vs.zip ds).mergeSort (PySem.W.dataLe false fun b : V × D => pyD b.2)).map (·.1)).length ≤ sizeLine := by
      rw [List.length_map, List.length_mergeSort, List.length_zip, k2.length, Nat.min_self]; exact line_le c2
    have hsorted : ((vs.zip ds).mergeSort (PySem.W.dataLe false fun b : V × D => pyD b.2)).map (·.2) = ds.mergeSort leD := by
      have e := PySem.W.sort_maps (r := PySem.W.dataLe false fun b : V × D => pyD b.2) (s := leD) (fun b : V × D => b.2) (l := vs.zip ds) (fun a _ b _ => rfl)
      exact e.trans (congrArg (fun l => List.mergeSort l leD) hz2)
    have hreps : Reps X.K F (((vs.zip ds).mergeSort (PySem.W.dataLe false fun b : V × D => pyD b.2)).map (·.1)) (ds.mergeSort leD) := by
      rw [← hsorted]
      exact reps_of_zip fun p hp => (hmem p (List.mem_mergeSort.mp hp)).1
    have np := I.hok.fresh (Nat.le_succ s.heap.objs.size)
    obtain ⟨A', c', n'⟩ := new_lst (X := X) sb np hreps
    exact ⟨.ref _, upd H (s.heap.objs.size + 1) (.lst (((vs.zip ds).mergeSort (PySem.W.dataLe false fun b : V × D => pyD b.2)).map (·.1))), I.laid (t' := s.toks) (fun _ _ => PyProof.Rows.sortedAll_old) (Nat.le_succ _) ⟨hlen, out, ep, hvo, he'⟩, rfl, q _ _ _ A' c' n'⟩
  rcases hl with hl | hl
  · exact PySem.W.sorted_data (enc := fun b : V × D => pyD b.2) (R := fun v (b : V × D) => RelV b.1 v) hl e1 e2 hal hso hlen hdep fin
  · exact Cq.S.sorted_dataT (enc := fun b : V × D => pyD b.2) (R := fun v (b : V × D) => RelV b.1 v) hl e1 e2 hal hso hlen hdep fin
theorem sortL_some {ds : List D} {z : D} (h : (dSortL ds).map D.lst = some z) : ∃ ps, pyL ds = some ps ∧ (sortB ps = true ∧ ds.length ≤ 1000000) ∧ z = .lst (ds.mergeSort leD) := by
  unfold dSortL at h
  cases o : pyL ds with
  | none => rw [o] at h; cases h
  | some ps =>
    rw [o] at h
    have h : (if sortB ps = true ∧ ds.length ≤ 1000000 then some (ds.mergeSort leD) else none).map D.lst = some z := h
    by_cases c : sortB ps = true ∧ ds.length ≤ 1000000
    · rw [if_pos c] at h; cases h; exact ⟨ps, rfl, c, rfl⟩
    · rw [if_neg c] at h; cases h
theorem cw_sorted (hu : X.A.units + 64 < cLine) : CallR X (.builtin "sorted") (rNs X.K dSorted) := by
  intro pins s σ H xs us Q I rv h
  obtain ⟨F, ds, z, sb, r, h, q⟩ := h
  obtain ⟨d, rfl⟩ := one_arg h rfl fun a b r => by cases a <;> rfl
  obtain ⟨v, rfl, k0⟩ := rovs1 r
  cases d with
  | lst ds =>
    obtain ⟨ps, o, c, rfl⟩ := sortL_some h
    obtain ⟨p, vs, rfl, k1, k2⟩ := k0.lst sb
    obtain ⟨its, rv', hl, hz⟩ := I.list (.inl (.inl k1))
    rw [Vals.ref1 rv]
    exact sorted_go hu I sb o c rv' (.inl hl.isList) k2 q
  | tup ds =>
    obtain ⟨ps, o, c, rfl⟩ := sortL_some h
    obtain ⟨p, vs, rfl, k1, k2, k3⟩ := k0.tup sb
    obtain ⟨its, rv', hl, hz⟩ := I.tuple k1
    rw [Vals.ref1 rv]
    exact sorted_go hu I sb o c rv' (.inr hl) k2 q
  | _ => cases h
/-! ### str, int -/
theorem cw_str : CallR X (.type "str") (rDs X.K dStr) := by
  refine callD (CallR.or call_str_int SkE.call_str_str) fun xs H Q ⟨F, ds, z, s, r, h, q⟩ => ?_
  obtain ⟨d, rfl⟩ := one_arg h rfl fun a b r => by cases a <;> rfl
  obtain ⟨v, rfl, k0⟩ := rovs1 r
  cases d with
  | int i =>
    simp only [dStr] at h
    by_cases c : i.natAbs < 2 ^ 64
    · rw [if_pos c] at h; cases h
      cases k0.int
      exact .inl ⟨i, rfl, log64 c, q _ F H (Al.refl s) (.str _)⟩
    · rw [if_neg c] at h; cases h
  | str y =>
    cases h
    cases k0.str
    exact .inr ⟨y, rfl, q _ F H (Al.refl s) (.str _)⟩
  | _ => cases h
theorem cw_int : CallR X (.type "int") (rDs X.K dInt) := by
  refine callD call_int_str fun xs H Q ⟨F, ds, z, s, r, h, q⟩ => ?_
  obtain ⟨d, rfl⟩ := one_arg h rfl fun a b r => by cases a <;> rfl
  obtain ⟨v, rfl, k0⟩ := rovs1 r
  cases d with
  | str y =>
    simp only [dInt] at h
    by_cases c : y.length ≤ 640
    · rw [if_pos c] at h
      cases o : PySem.intText? y with
      | none => rw [o] at h; cases h
      | some n =>
        rw [o] at h; cases h
        cases k0.str
        exact ⟨y, n, rfl, o, c, q _ F H (Al.refl s) (.int _)⟩
    · rw [if_neg c] at h; cases h
  | _ => cases h
/-! ### methods of built-in types -/
def isKind (T : String) : D → Bool
  | .str _ => T == "str"
  | .lst _ => T == "list"
  | _ => false
theorem rov_ty {v : V} {d : D} {T : String} (s : Sub F H) (r : RoV X.K F H v d) (k : isKind T d = true) : tyV X.K T v H := by
  cases d with
  | str x => cases r.str; exact eq_of_beq (show (T == "str") = true from k)
  | lst xs =>
    obtain ⟨p, vs, rfl, k1, k2⟩ := r.lst s
    exact .inl ⟨eq_of_beq (show (T == "list") = true from k), vs, .inl (.inl k1)⟩
  | _ => cases k
variable {o e : Expr} {es : List Expr} {name : Str} {apos cpos : Pos} {T bid : String} {f : D → List D → Option D} {mo : M Hd} {ma : M (List Hd)}
/-- the receiver's kind is looked at ahead of the arguments -/
def mKind (T : String) (h : Hd) : M Hd := fun g => match h.rd g with
  | some d => if isKind T d = true then some (.ok h g) else none
  | none => none
theorem kind_ok {T : String} {h : Hd} {v : V} {R : Prop} {γ δ : Type} {rel2 : Rl γ δ} {Q : δ → Hp → Prop} {k : Hd → M γ} (S : Sta X.K F g σ H) (r : HdR X.K F σ h v) (q : Pst X.K W σ rel2 F0 H0 g0 Q (((mKind T h).bind k) g)) (go : tyV X.K T v H → Pst X.K W σ rel2 F0 H0 g0 Q (k h g) → R) : R := by
  unfold M.bind mKind at q
  cases e : h.rd g with
  | none => simp only [e] at q; exact q.elim
  | some d =>
    simp only [e] at q
    by_cases c : isKind T d = true
    · simp only [if_pos c] at q; exact go (rov_ty S.sub (r.rov S e) c) q
    · simp only [if_neg c] at q; exact q.elim
def mMtK (T : String) (f : D → List D → Option D) (mo : M Hd) (ma : M (List Hd)) : M D := mo.bind fun h => (mKind T h).bind fun h => ma.bind fun hs => mFs (fun ds => match ds with | d :: es => f d es | [] => none) (h :: hs)
theorem se_bm (pa : PlainAttrs T) (slot : Slot T name bid) (hty : typeOf (.builtin bid) = pure (.type "method_descriptor")) (hm : MtR X bid (rDm X.K f)) (ho : SO X W o mo) (ha : SA X W (e :: es) ma)
    (hbase : attributeBase o name X.env (eval o X.env) = eval o X.env := by rfl)
    (hfew : ((backTo cpos (starEach (e :: es) X.env)).all (fun x => !x.1) && (backToKw cpos (keywordEach [] X.env)).all (fun x => x.1.isSome)
      && decide ((e :: es).length + ([] : List Keyword).length + (if ([] : List Keyword).isEmpty then 0 else 1) < 30)) = true := by rfl)
    (hline : (apos.endLine == cpos.line) = true := by rfl) (hs : starEach (e :: es) X.env = (false, eval e X.env) :: starEach es X.env := by rfl) (hplain : (backTo cpos (starEach es X.env)).any (·.1) = false := by rfl) :
    SE X W (.Call (.Attribute o name apos) (e :: es) [] cpos) (mMtK T f mo ma) :=
  PE_imp (pe_bm pa slot hty hm ho ha hbase hfew hline hs hplain) fun σ H Q q => by
    obtain ⟨F, g, S, q⟩ := q
    refine ⟨F, g, S, Pst_bind Stp.refl q fun h v F1 H1 g1 S1 P1 P01 r1 q1 => kind_ok S1 r1 q1 fun ty q2 => ⟨ty, F1, g1, S1, Pst_bind P01 q2 fun hs vs F2 H2 g2 S2 P2 P02 r2 q3 => ?_⟩⟩
    exact fs_ok S2 P02 (.cons (HdR.mono P2.fg r1) r2) q3
def fSplit : D → List D → Option D
  | .str a, [.str b] => if b.length ≠ 0 ∧ a.length ≤ 1000000 then some (.lst ((Txt.split a b).map .str)) else none
  | _, _ => none
def fJoin : D → List D → Option D
  | .str a, [.lst xs] => match strsOf xs with
    | some ys => if (ys.map (·.length)).sum + ys.length * a.length ≤ 1000000 then some (.str (Txt.join a ys)) else none
    | none => none
  | _, _ => none
def fEndswith : D → List D → Option D
  | .str a, [.str b] => some (.bl (Txt.endswith a b))
  | _, _ => none
theorem mtD {r r' : V → List V → Hp → VK → Prop} (hc : MtR X bid r) (k : ∀ x xs H Q, r' x xs H Q → r x xs H Q) : MtR X bid r' := fun pins s σ H x xs v us Q I rx rv h => hc pins s σ H x xs v us Q I rx rv (k x xs H Q h)
theorem rovs_cons {K : Frag} {x : V} {xs : List V} {ds : List D} (r : RoVs K F H (x :: xs) ds) : ∃ d es, ds = d :: es ∧ RoV K F H x d ∧ RoVs K F H xs es := by
  cases r with
  | cons a b => exact ⟨_, _, rfl, a, b⟩
theorem mw_split : MtR X "str.split" (rDm X.K fSplit) := by
  refine mtD mt_split fun x xs H Q ⟨F, ds, z, s, r, h, q⟩ => ?_
  obtain ⟨d, es, rfl, r0, rs⟩ := rovs_cons r
  cases d with
  | str a =>
    have h : fSplit (.str a) es = some z := h
    obtain ⟨b, rfl⟩ := one_arg (f := fSplit (.str a)) h rfl fun a b r => by cases a <;> rfl
    obtain ⟨y, rfl, r1⟩ := rovs1 rs
    cases b with
    | str b =>
      simp only [fSplit] at h
      by_cases c : b.length ≠ 0 ∧ a.length ≤ 1000000
      · rw [if_pos c] at h; cases h
        cases r0.str; cases r1.str
        refine ⟨a, b, rfl, rfl, by simpa using c.1, Nat.le_trans (Nat.add_le_add_right c.2 2) (by decide), fun t nt => ?_⟩
        obtain ⟨A', r'⟩ := al_lst (X := X) s nt (Reps.ofStrs (Txt.split a b))
        exact q _ _ _ A' r'
      · rw [if_neg c] at h; cases h
    | _ => cases h
  | _ => cases h
theorem mw_join : MtR X "str.join" (rDm X.K fJoin) := by
  refine mtD mt_join fun x xs H Q ⟨F, ds, z, s, r, h, q⟩ => ?_
  obtain ⟨d, es, rfl, r0, rs⟩ := rovs_cons r
  cases d with
  | str a =>
    have h : fJoin (.str a) es = some z := h
    obtain ⟨b, rfl⟩ := one_arg (f := fJoin (.str a)) h rfl fun a b r => by cases a <;> rfl
    obtain ⟨y, rfl, r1⟩ := rovs1 rs
    cases b with
    | lst b =>
      simp only [fJoin] at h
      cases o : strsOf b with
      | none => rw [o] at h; cases h
      | some ys =>
        rw [o] at h
        have h : (if (ys.map (·.length)).sum + ys.length * a.length ≤ 1000000 then some (D.str (Txt.join a ys)) else none) = some z := h
        by_cases c : (ys.map (·.length)).sum + ys.length * a.length ≤ 1000000
        · rw [if_pos c] at h; cases h
          cases r0.str
          obtain ⟨p, vs, rfl, k1, k2⟩ := r1.lst s
          rw [strsOf_ok o] at k2
          exact ⟨a, p, ys, rfl, rfl, .inl (.inl (.inl (by rw [← k2.strs]; exact k1))), Nat.le_trans c (by decide), q _ F H (Al.refl s) (.str _)⟩
        · rw [if_neg c] at h; cases h
    | _ => cases h
  | _ => cases h
theorem mw_endswith : MtR X "str.endswith" (rDm X.K fEndswith) := by
  refine mtD mt_endswith fun x xs H Q ⟨F, ds, z, s, r, h, q⟩ => ?_
  obtain ⟨d, es, rfl, r0, rs⟩ := rovs_cons r
  cases d with
  | str a =>
    have h : fEndswith (.str a) es = some z := h
    obtain ⟨b, rfl⟩ := one_arg (f := fEndswith (.str a)) h rfl fun a b r => by cases a <;> rfl
    obtain ⟨y, rfl, r1⟩ := rovs1 rs
    cases b with
    | str b =>
      cases h
      cases r0.str; cases r1.str
      exact ⟨a, b, rfl, rfl, q _ F H (Al.refl s) (.bl _)⟩
    | _ => cases h
  | _ => cases h
/-! ### f-strings -/
def dFmt : D → Option D
  | .str y => if y.length ≤ 1000000 then some (.str y) else none
  | .int i => if i.natAbs < 2 ^ 64 then some (.str (toString i : String)) else none
  | _ => none
theorem se_fmt (he : SO X W e mo) : SE X W (.FormattedValue e (-1) none pos) (mOp1 dFmt mo) := PE_imp (pe_fmt he) fun σ H Q q => by
  obtain ⟨F, g, S, q⟩ := q
  refine ⟨F, g, S, Pst_bind Stp.refl q fun h v F1 H1 g1 S1 P1 P01 r1 q1 => ?_⟩
  obtain ⟨F4, d, z, sb, r, hz, k⟩ := f1_ok S1 P01 r1 q1
  cases d with
  | str y =>
    simp only [dFmt] at hz
    by_cases c : y.length ≤ 1000000
    · rw [if_pos c] at hz; cases hz; cases r.str
      exact .inl ⟨y, rfl, line_le c, k _ F4 H1 (Al.refl sb) (.str _)⟩
    · rw [if_neg c] at hz; cases hz
  | int i =>
    simp only [dFmt] at hz
    by_cases c : i.natAbs < 2 ^ 64
    · rw [if_pos c] at hz; cases hz; cases r.int
      exact .inr ⟨i, rfl, log64 c, k _ F4 H1 (Al.refl sb) (.str _)⟩
    · rw [if_neg c] at hz; cases hz
  | _ => cases hz
def mJ : List (M D) → Str → M D
  | [], acc => M.ret (.str acc)
  | m :: ms, acc => m.bind fun d => match d with
    | .str y => if (acc ++ y).length ≤ 1000000 then mJ ms (acc ++ y) else M.fail
    | _ => M.fail
def SJ (X : Cx) (W : WX) (es : List Expr) (ms : List (M D)) : Prop := PJ X es (ms.map fun m => tG X.K W (relE X.K) m)
theorem sj_nil : SJ X W [] [] := .nil
theorem sj_cons {m : M D} {ms : List (M D)} (h : SE X W e m) (r : SJ X W es ms) : SJ X W (e :: es) (m :: ms) := .cons h r
theorem js_ok {Q : V → Hp → Prop} : ∀ {ms : List (M D)} {acc : Str} {F H F0 H0 : Hp} {g g0 : Gm}, Sta X.K F g σ H → Stp F0 H0 g0 σ F H g σ → Pst X.K W σ (relE X.K) F0 H0 g0 Q (mJ ms acc g) → tJs (ms.map fun m => tG X.K W (relE X.K) m) acc σ H (fun z H' => Q (.str z) H')
  | [], acc, F, H, _, _, g, _, S, P, q => q _ F H S P (.str _)
  | m :: ms, acc, F, H, F0, H0, g, g0, S, P, q => ⟨F, g, S, Pst_bind P q fun d v F1 H1 g1 S1 P1 P01 r1 q1 => by
      have r1 : Rep X.K F1 v d := r1
      cases d with
      | str y =>
        have q1 : Pst X.K W σ (relE X.K) F0 H0 g0 Q ((if (acc ++ y).length ≤ 1000000 then mJ ms (acc ++ y) else M.fail) g1) := q1
        by_cases c : (acc ++ y).length ≤ 1000000
        · rw [if_pos c] at q1; cases r1
          exact ⟨y, rfl, line_le c, js_ok S1 P01 q1⟩
        · rw [if_neg c] at q1; exact q1.elim
      | _ => exact q1.elim⟩
theorem se_joined {v1 v2 : Expr} {rest : List Expr} {ms : List (M D)} (h : SJ X W (v1 :: v2 :: rest) ms) : SE X W (.JoinedStr (v1 :: v2 :: rest) pos) (mJ ms Str.empty) := PE_imp (pe_joined h) fun σ H Q q => by
  obtain ⟨F, g, S, q⟩ := q
  exact js_ok S Stp.refl q
/-! ### isinstance -/
inductive Ty where
  | int | bool | str | tuple | list | dict | cls (c : Nat)
/-- which classes stand above one another -/
def subCls : Nat → Nat → Bool
  | 0, 0 => true | 1, 1 => true | 2, 2 => true | 3, 3 => true | 4, 4 => true | 5, 5 => true | 6, 6 => true
  | 3, 2 => true | 4, 2 => true | 5, 2 => true | 5, 3 => true | 5, 4 => true
  | _, _ => false
def isTy : Ty → D → Bool
  | .int, .int _ => true
  | .int, .bl _ => true
  | .bool, .bl _ => true
  | .str, .str _ => true
  | .tuple, .tup _ => true
  | .list, .lst _ => true
  | .dict, .dik _ => true
  | .dict, .dit _ => true
  | .cls c, .ins c' _ => subCls c' c
  | _, _ => false
def Ty.val (K : Frag) : Ty → Value
  | .int => .type "int" | .bool => .type "bool" | .str => .type "str" | .tuple => .type "tuple" | .list => .type "list" | .dict => .type "dict"
  | .cls c => .ref (ca K c)
def Ty.v (K : Frag) : Ty → V
  | .int => .ty "int" | .bool => .ty "bool" | .str => .ty "str" | .tuple => .ty "tuple" | .list => .ty "list" | .dict => .ty "dict"
  | .cls c => .ref (ca K c)
/-- cs: the classes that are known to the frame -/
def dIsi (cs : List Nat) (T : Ty) : D → Option D
  | .scr _ => none
  | .glo _ => none
  | .ktp _ => none
  | .lam _ _ _ _ => none
  | .ins c fs => if c ∈ cs then some (.bl (isTy T (.ins c fs))) else none
  | d => some (.bl (isTy T d))
/-- what isinstance asks of an own class -/
structure InsC (K : Frag) (c : Nat) : Prop where
  cl : Cls K (ca K c)
  ha : PySem.W.findIn K (.ref (ca K c)) "__class__" = some (some (.builtin "object.__class__"))
  hn : PySem.W.specialIn K (.builtin "object.__class__") "__get__" = some (some (.builtin "getset_descriptor.__get__"))
  htk : PySem.W.takesIn K (.builtin "object.__class__") = some true
  hm : PySem.W.mroIn K (ca K c) (.type "object") = some true
/-- the answers of the frame for one class T -/
structure KitOk (K : Frag) (cs : List Nat) (T : Ty) : Prop where
  non : PySem.W.kitOne K (.type "NoneType") (T.val K) = some false
  bl : PySem.W.kitOne K (.type "bool") (T.val K) = some (isTy T (.bl true))
  int : PySem.W.kitOne K (.type "int") (T.val K) = some (isTy T (.int 0))
  str : PySem.W.kitOne K (.type "str") (T.val K) = some (isTy T (.str Str.empty))
  tup : PySem.W.kitOne K (.type "tuple") (T.val K) = some (isTy T (.tup []))
  lst : PySem.W.kitOne K (.type "list") (T.val K) = some (isTy T (.lst []))
  dic : PySem.W.kitOne K (.type "dict") (T.val K) = some (isTy T (.dik []))
  ins : ∀ c ∈ cs, InsC K c ∧ PySem.W.kitOne K (.ref (ca K c)) (T.val K) = some (isTy T (.ins c []))
theorem rov_isi {cs : List Nat} {T : Ty} {v : V} {d z : D} (kit : KitOk X.K cs T) (s : Sub F H) (r : RoV X.K F H v d) (h : dIsi cs T d = some z) : ∃ t b, z = .bl b ∧ TyX X.K H v t ∧ PySem.W.kitOne X.K t (T.val X.K) = some b := by
  have tupT : ∀ {a : Addr} {vs : List V}, SqT X.K H a vs → TyX X.K H (.ref a) (.type "tuple") := fun {a vs} h => by
    rcases h with (h | ⟨o, h⟩) | ⟨o, its, n, h1, h2, _⟩
    · exact .base (.tup h)
    · exact .fTuple h
    · exact .kTuple h1 h2
  cases d with
  | non => cases h; cases r.non; exact ⟨_, _, rfl, .base .non, by rw [kit.non]; cases T <;> rfl⟩
  | bl b => cases h; cases r.bl; exact ⟨_, _, rfl, .base (.bl b), by rw [kit.bl]; cases T <;> rfl⟩
  | int i => cases h; cases r.int; exact ⟨_, _, rfl, .base (.int i), by rw [kit.int]; cases T <;> rfl⟩
  | str x => cases h; cases r.str; exact ⟨_, _, rfl, .base (.str x), by rw [kit.str]; cases T <;> rfl⟩
  | tup xs =>
    cases h
    obtain ⟨p, vs, rfl, k1, k2, _⟩ := r.tup s
    exact ⟨_, _, rfl, tupT k1, by rw [kit.tup]; cases T <;> rfl⟩
  | lst xs =>
    cases h
    obtain ⟨p, vs, rfl, k1, k2⟩ := r.lst s
    exact ⟨_, _, rfl, .base (.lst k1), by rw [kit.lst]; cases T <;> rfl⟩
  | dik xs =>
    cases h
    have : ∃ a kvs, v = .ref a ∧ H a = some (.dK kvs) := by
      rcases r with r | ⟨a, rfl, ⟨kv, h, _⟩, _⟩
      · cases r with
        | dik h _ _ => exact ⟨_, _, rfl, s _ _ h⟩
      · exact ⟨_, _, rfl, h⟩
    obtain ⟨a, kvs, rfl, e⟩ := this
    exact ⟨_, _, rfl, .base (.dK e), by rw [kit.dic]; cases T <;> rfl⟩
  | dit xs =>
    cases h
    have : ∃ a kvs, v = .ref a ∧ H a = some (.dT kvs) := by
      rcases r with r | ⟨a, rfl, ⟨kv, h, _⟩, _⟩
      · cases r with
        | dit h _ _ => exact ⟨_, _, rfl, s _ _ h⟩
      · exact ⟨_, _, rfl, h⟩
    obtain ⟨a, kvs, rfl, e⟩ := this
    exact ⟨_, _, rfl, .base (.dT e), by rw [kit.dic]; cases T <;> rfl⟩
  | ins c fs =>
    simp only [dIsi] at h
    by_cases hc : c ∈ cs
    · rw [if_pos hc] at h; cases h
      obtain ⟨ic, ik⟩ := kit.ins c hc
      have : ∃ a dx fv, v = .ref a ∧ H a = some (.ins (ca X.K c) dx fv) := by
        rcases r with r | ⟨a, rfl, ⟨dx, fv, h, _⟩, _⟩
        · cases r with
          | ins h _ _ _ => exact ⟨_, _, _, rfl, s _ _ h⟩
        · exact ⟨_, _, _, rfl, h⟩
      obtain ⟨a, dx, fv, rfl, e⟩ := this
      exact ⟨_, _, rfl, .base (.ins e ic.cl ic.ha ic.hn ic.htk ic.hm), by rw [ik]; cases T <;> rfl⟩
    · rw [if_neg hc] at h; cases h
  | scr _ => cases h
  | glo _ => cases h
  | ktp _ => cases h
  | lam _ _ _ _ => cases h
def mIsi (cs : List Nat) (T : Ty) (mo : M Hd) : M D := mo.bind (mF1 (dIsi cs T))
/-- isinstance(e, T), T a name: te its reading -/
theorem se_isi {cs : List Nat} {T : Ty} {p pos : Pos} {te : Expr} (hg : Gl X "isinstance") (hm : X.mg "isinstance" = none) (kit : KitOk X.K cs T) (he : SO X W e mo) (ht : PE X te (tC (T.v X.K))) (hst : starEach (e :: [te]) X.env = (false, eval e X.env) :: starEach [te] X.env := by rfl)
    (hst2 : starEach [te] X.env = (false, eval te X.env) :: starEach [] X.env := by rfl) (hpl : (backTo pos (starEach [te] X.env)).any (·.1) = false := by rfl) : SE X W (.Call (.Name "isinstance" p) [e, te] [] pos) (mIsi cs T mo) :=
  PE_imp (pe_callB call_isi hg hm (by decide +kernel) (pa_cons he (pa_cons ht pa_nil hst2) hst) (by decide) (by decide) hst hpl) fun σ H Q q => by
    obtain ⟨F, g, S, q⟩ := q
    refine ⟨F, g, S, Pst_bind Stp.refl q fun h v F1 H1 g1 S1 P1 P01 r1 q1 => ?_⟩
    obtain ⟨F4, d, z, sb, r, hz, k⟩ := f1_ok S1 P01 r1 q1
    obtain ⟨t, b, rfl, ty, ko⟩ := rov_isi kit sb r hz
    refine ⟨v, T.v X.K, t, T.val X.K, b, rfl, ?_, ty, ko, k _ F4 H1 (Al.refl sb) (.bl b)⟩
    cases T with
    | cls c => exact .own _
    | _ => exact .ty _
end
end Cq

set_option Elab.async false
set_option linter.all false
set_option maxRecDepth 100000
namespace Cq
open PySem PySem.Spec PyProof.Rows L2
section
variable {X : Cx} {W : WX} {pos : Pos} {σ : L2.St} {F H F0 H0 : Hp} {g g0 : Gm} {e tg : Expr} {mo : M Hd}
theorem PI_imp {wi wi' : TI} (h : PI X tg e wi) (k : ∀ σ H R, wi' σ H R → wi σ H R) : PI X tg e wi' := ⟨fun pins s σ H R I q => h.run pins s σ H R I (k σ H R q)⟩
/-! ### what a walk goes over -/
def strD (x : Str) : List D := x.cps.toList.map fun c => .str ⟨#[c]⟩
def itD : D → Option (List D)
  | .tup xs => some xs
  | .lst xs => some xs
  | .scr ns => some (ns.map .int)
  | .str x => some (strD x)
  | _ => none
def iSeq (K : PySem.W.Frag) (te : TE) : TI := fun σ H R => te σ H fun v H1 => (∃ x, v = .str x ∧ R (Its x) H1) ∨ (∃ a, v = .ref a ∧ (∃ xs, SqL K H1 a xs) ∧ R (Itl K a) H1) ∨ ∃ a, v = .ref a ∧ (∃ xs, SqT K H1 a xs) ∧ R (Itt K a) H1
theorem pi_seq {te : TE} (he : PE X e te) : PI X tg e (iSeq X.K te) := by
  refine ⟨fun pins s σ H R I h => ?_⟩
  refine thn (he.run pins s σ H _ I h) fun v s1 ⟨y, H1, I1, r1, h1⟩ => ?_
  rcases h1 with ⟨x, rfl, q⟩ | ⟨a, rfl, ⟨xs, hq⟩, q⟩ | ⟨a, rfl, ⟨xs, hq⟩, q⟩
  · obtain ⟨t, rfl⟩ := r1
    cases ha : x.cps.all (· < 128)
    · exact wpAny_pyIter_wide ha (pi_one (tk := s1.toks) I1 _ (turn_str _ x t "str_iterator" (.inr rfl)) ⟨_, Heap.get?_push_size _ rfl, rfl, rfl⟩ q)
    · exact wpAny_pyIter_ascii ha (pi_one (tk := s1.toks) I1 _ (turn_str _ x t "str_ascii_iterator" (.inl rfl)) ⟨_, Heap.get?_push_size _ rfl, rfl, rfl⟩ q)
  · cases r1
    obtain ⟨its, rv, p, hz⟩ := I1.list hq
    exact wpAny_pyIter_list p.isList (pi_one (tk := s1.toks) I1 _ (turn_list a _) ⟨_, Heap.get?_push_size _ rfl, rfl, rfl⟩ q)
  · cases r1
    obtain ⟨its, rv, p, hz⟩ := I1.tuple hq
    exact wpAny_pyIter_tuple (show s1.heap.IsTuple a its.toArray from p) (pi_one (tk := s1.toks) I1 _ (turn_tuple a _) ⟨_, Heap.get?_push_size _ rfl, rfl, rfl⟩ q)
theorem items_list {K : Frag} {L : Hp → Prop} {a : Addr} {vs : List V} {ds : List D} (h : ∀ H, Sub F H → L H → SqL K H a vs) (r : Reps K F vs ds) : Items K F L (Itl K a) ds where
  go := fun i H s l lt => ⟨vs, vs[i]'(by rw [r.length]; exact lt), h H s l, List.getElem?_eq_getElem _⟩
  stop := fun i H s l le => ⟨vs, h H s l, by rw [r.length]; exact le⟩
  yld := fun i H x H' F1 d s s1 l y e => by
    obtain ⟨rfl, y⟩ := y
    exact ⟨F1, Al.refl s1, (Reps.get r (y vs (h H' (s.trans s1) l)) e).mono s⟩
theorem items_tup {K : Frag} {L : Hp → Prop} {a : Addr} {vs : List V} {ds : List D} (h : SqT K F a vs) (r : Reps K F vs ds) : Items K F L (Itt K a) ds where
  go := fun i H s l lt => ⟨vs, vs[i]'(by rw [r.length]; exact lt), s.tup h, List.getElem?_eq_getElem _⟩
  stop := fun i H s l le => ⟨vs, s.tup h, by rw [r.length]; exact le⟩
  yld := fun i H x H' F1 d s s1 l y e => by
    obtain ⟨rfl, y⟩ := y
    exact ⟨F1, Al.refl s1, (Reps.get r (y vs ((s.trans s1).tup h)) e).mono s⟩
theorem items_str {K : Frag} {L : Hp → Prop} (x : Str) : Items K F L (Its x) (strD x) where
  go := fun i H s l lt => show i < x.cps.size by simpa [strD] using lt
  stop := fun i H s l le => show x.cps.size ≤ i by simpa [strD] using le
  yld := fun i H v H' F1 d s s1 l y e => by
    obtain ⟨rfl, c, hc, rfl⟩ := y
    have : d = .str ⟨#[c]⟩ := by
      unfold strD at e
      rw [List.getElem?_map, Array.getElem?_toList, hc] at e
      exact (Option.some.inj e).symm
    subst this
    exact ⟨F1, Al.refl s1, .str _⟩
theorem items_rng {K : Frag} {L : Hp → Prop} (lo : Int) (n : Nat) : Items K F L (Itr lo n) ((List.range n).map fun (i : Nat) => D.int (lo + (i : Int))) where
  go := fun i H s l lt => show i < n by simpa using lt
  stop := fun i H s l le => show n ≤ i by simpa using le
  yld := fun i H v H' F1 d s s1 l y e => by
    obtain ⟨rfl, rfl⟩ := y
    have lt : i < n := by
      have := (List.getElem?_eq_some_iff.mp e).1
      simpa using this
    rw [List.getElem?_map, List.getElem?_range lt] at e
    cases e
    exact ⟨F1, Al.refl s1, .int _⟩
theorem reps_ints {K : Frag} : ∀ ns : List Int, Reps K F (ns.map V.int) (ns.map D.int)
  | [] => .nil
  | n :: ns => .cons (.int n) (reps_ints ns)
/-- a frozen value that is walked -/
theorem it_rep {K : Frag} {v : V} {d : D} {ds : List D} {L : Hp → Prop} {R : It → Hp → Prop} {H1 : Hp} (sb : Sub F H1) (r : Rep K F v d) (h : itD d = some ds) (k : ∀ J, Items K F L J ds → R J H1) :
    (∃ x, v = .str x ∧ R (Its x) H1) ∨ (∃ a, v = .ref a ∧ (∃ xs, SqL K H1 a xs) ∧ R (Itl K a) H1) ∨ ∃ a, v = .ref a ∧ (∃ xs, SqT K H1 a xs) ∧ R (Itt K a) H1 := by
  cases r with
  | str x => cases h; exact .inl ⟨x, rfl, k _ (items_str x)⟩
  | lst e r => cases h; exact .inr (.inl ⟨_, rfl, ⟨_, .inl (.inl (sb _ _ e))⟩, k _ (items_list (fun H s _ => .inl (.inl (s _ _ e))) r)⟩)
  | tup e r => cases h; exact .inr (.inr ⟨_, rfl, ⟨_, sb.tup e⟩, k _ (items_tup e r)⟩)
  | scr e => cases h; exact .inr (.inl ⟨_, rfl, ⟨_, sb.seq e⟩, k _ (items_list (fun H s _ => s.seq e) (reps_ints _))⟩)
  | _ => cases h
def mIt (m : M D) : M (List D) := m.bind fun d => fun g => match itD d with
  | some ds => some (.ok ds g)
  | none => none
theorem si_val {m : M D} (he : SE X W e m) : SI X W none tg e (mIt m) := PI_imp (pi_seq he) fun σ H R q => by
  obtain ⟨F, g, S, q⟩ := q
  refine ⟨F, g, S, Pst_bind Stp.refl q fun d v F1 H1 g1 S1 P1 P01 r1 q1 => ?_⟩
  cases o : itD d with
  | none => simp only [o] at q1; exact q1.elim
  | some ds =>
    simp only [o] at q1
    exact it_rep (L := fun _ => True) S1.sub r1 o fun J it => q1 J F1 H1 S1 P01 ⟨_, it, trivial, fun _ _ _ _ _ => trivial, fun i d h => nomatch h⟩
/-- a name that is walked -/
def mItN (i : Nat) : M (List D) := fun g => match (Hd.nm i).rd g with
  | some d => (match itD d with
    | some ds => some (.ok ds g)
    | none => none)
  | none => none
theorem si_nm {x : Str} (i : Nat) (hN : X.N[i]? = some x) (hv : Vis X.env.scope x) (hd : (x == ("__debug__" : Str)) = false := by decide) (hcd : (x == ("__classdict__" : Str)) = false := by decide) : SI X W (some i) tg (.Name x pos) (mItN i) :=
  PI_imp (pi_seq (pe_var hN hv hd hcd)) fun σ H R q => by
  obtain ⟨F, g, S, q⟩ := q
  unfold mItN at q
  cases o1 : (Hd.nm i).rd g with
  | none => simp only [o1] at q; exact q.elim
  | some d =>
    cases o : itD d with
    | none => simp only [o1, o] at q; exact q.elim
    | some ds =>
      simp only [o1, o] at q
      -- the value and the lending
      have fl : ∀ j dj, some i = some j → (g[j]?).bind Sl.cell = some dj → dj.flat = true := fun j dj e c => by
        cases e
        cases q1 : g[i]? with
        | none => rw [q1] at c; cases c
        | some s =>
          rw [q1] at c
          simp only [Hd.rd, q1] at o1
          cases s with
          | ow d' =>
            have c : some d' = some dj := c
            cases c
            by_cases f : dj.flat = true
            · exact f
            · have o1 : (if dj.flat = true then some dj else none) = some d := o1
              rw [if_neg f] at o1; cases o1
          | mb d' =>
            have c : some d' = some dj := c
            cases c
            by_cases f : dj.flat = true
            · exact f
            · have o1 : (if dj.flat = true then some dj else none) = some d := o1
              rw [if_neg f] at o1; cases o1
          | _ => cases c
      have S2 := lend_sta S fl
      have key : ∃ v, σ[i]? = some (some v) ∧ (Rep X.K F v d ∨ ∃ a, v = .ref a ∧ F a = none ∧ ¬ Own (lendOut (some i) g) σ H a ∧ Cell X.K F H a d) := by
        have ro : (lendOut (some i) g)[i]? = some (.ro d) → ∃ v, σ[i]? = some (some v) ∧ (Rep X.K F v d ∨ ∃ a, v = .ref a ∧ F a = none ∧ ¬ Own (lendOut (some i) g) σ H a ∧ Cell X.K F H a d) := fun hq => by
          obtain ⟨v, e1, rv⟩ := S2.slot i _ hq
          refine ⟨v, e1, ?_⟩
          rcases rv with rv | ⟨a, rfl, c, fa⟩
          · exact .inl rv
          · rcases S2.ro i d a hq e1 with z | z
            · exact .inl z
            · cases ef : F a with
              | none => exact .inr ⟨a, rfl, ef, z, c⟩
              | some u =>
                refine .inl ?_
                have hu := S.sub _ _ ef
                cases d with
                | lst xs => obtain ⟨vs, h1, h2⟩ := c; rw [h1] at hu; cases hu; exact .lst ef h2
                | tup xs => exact c.elim
                | str xs => exact c.elim
                | scr xs => exact c.elim
                | _ => cases o
        cases q1 : g[i]? with
        | none => simp only [Hd.rd, q1] at o1; cases o1
        | some s =>
          have hl : i < g.length := (List.getElem?_eq_some_iff.mp q1).1
          have o1' := o1
          simp only [Hd.rd, q1] at o1'
          cases s with
          | un => cases o1'
          | im d' => cases o1'; obtain ⟨v, e1, r⟩ := S.slot i _ q1; exact ⟨v, e1, .inl r⟩
          | ro d' => cases o1'; exact ro (by simp [lendOut, q1])
          | ow d' =>
            have o1' : (if d'.flat = true then some d' else none) = some d := o1'
            by_cases f : d'.flat = true
            · rw [if_pos f] at o1'; cases o1'; exact ro (by simp [lendOut, q1, List.getElem?_set_self hl])
            · rw [if_neg f] at o1'; cases o1'
          | mb d' =>
            have o1' : (if d'.flat = true then some d' else none) = some d := o1'
            by_cases f : d'.flat = true
            · rw [if_pos f] at o1'; cases o1'; exact ro (by simp [lendOut, q1, List.getElem?_set_self hl])
            · rw [if_neg f] at o1'; cases o1'
      obtain ⟨v, e1, key⟩ := key
      refine ⟨v, e1, ?_⟩
      rcases key with r | ⟨a, rfl, fn, no, c⟩
      · exact it_rep (L := fun _ => True) S.sub r o fun J it => q J F H S Stp.refl ⟨_, it, trivial, fun _ _ _ _ _ => trivial, fl⟩
      · cases d with
        | lst xs =>
          cases o
          obtain ⟨vs, h1, h2⟩ := c
          exact .inr (.inl ⟨a, rfl, ⟨vs, .inl (.inl h1)⟩, q _ F H S Stp.refl ⟨fun H' => H' a = some (.lst vs), items_list (fun H' _ l => .inl (.inl l)) h2, h1, fun F2 H2 σ2 g2 P => (P.fr a _ h1 (fun _ z => nomatch z) (fun _ => fn) no).1, fl⟩⟩)
        | tup xs => exact c.elim
        | str xs => exact c.elim
        | scr xs => exact c.elim
        | _ => cases o
/-! ### range -/
def rngD (lo : Int) (n : Nat) : List D := (List.range n).map fun (i : Nat) => D.int (lo + (i : Int))
def rng1 : List D → Option (List D)
  | [.int j] => if -(2 ^ 62) ≤ j ∧ j < 2 ^ 62 then some (rngD 0 j.toNat) else none
  | _ => none
def mSrc (f : List D → Option (List D)) (ma : M (List Hd)) : M (List D) := ma.bind fun hs => fun g => match rdAll g hs with
  | some ds => (match f ds with
    | some xs => some (.ok xs g)
    | none => none)
  | none => none
theorem src_ok {α : Type} {f : List D → Option (List D)} {σ0 : L2.St} {rel : Rl (List D) α} {R : α → Hp → Prop} {hs : List Hd} {vs : List V} (S : Sta X.K F g σ H) (r : HdsR X.K F σ hs vs) (q : Pst X.K W σ0 rel F0 H0 g0 R ((fun g => match rdAll g hs with
  | some ds => (match f ds with
    | some xs => some (.ok xs g)
    | none => none)
  | none => none : Gm → Option (Res (List D))) g)) : ∃ ds xs, RoVs X.K F H vs ds ∧ f ds = some xs ∧ Pst X.K W σ0 rel F0 H0 g0 R (some (.ok xs g)) := by
  cases o1 : rdAll g hs with
  | none => simp only [o1] at q; exact q.elim
  | some ds =>
    cases o : f ds with
    | none => simp only [o1, o] at q; exact q.elim
    | some xs =>
      simp only [o1, o] at q
      exact ⟨ds, xs, HdsR.rov S r o1, o, q⟩
theorem si_range1 {a : Expr} {ma : M (List Hd)} {p : Pos} (hg : Gl X "range") (hm : X.mg "range" = none) (ha : SA X W [a] ma) (hs : starEach [a] X.env = [(false, eval a X.env)] := by rfl) : SI X W none tg (.Call (.Name "range" p) [a] [] pos) (mSrc rng1 ma) :=
  PI_imp (pi_range1 hg hm ha hs) fun σ H R q => by
  obtain ⟨F, g, S, q⟩ := q
  refine ⟨F, g, S, Pst_bind Stp.refl q fun hs vs F1 H1 g1 S1 P1 P01 r1 q1 => ?_⟩
  obtain ⟨ds, xs, rv, o, q2⟩ := src_ok S1 r1 q1
  obtain ⟨d, rfl⟩ := one_arg (f := rng1) o rfl fun a b r => by cases a <;> rfl
  obtain ⟨v, rfl, k0⟩ := rovs1 rv
  cases d with
  | int j =>
    simp only [rng1] at o
    by_cases c : -(2 ^ 62) ≤ j ∧ j < 2 ^ 62
    · rw [if_pos c] at o; cases o
      cases k0.int
      exact ⟨j, rfl, c.1, c.2, q2 _ F1 H1 S1 P01 ⟨fun _ => True, items_rng _ _, trivial, fun _ _ _ _ _ => trivial, fun i d h => nomatch h⟩⟩
    · rw [if_neg c] at o; cases o
  | _ => cases o
end
end Cq

set_option Elab.async false
set_option linter.all false
set_option maxRecDepth 100000
namespace Cq
open PySem PySem.Spec PyProof.Rows L2
section
variable {X : Cx} {W : WX} {pos : Pos} {σ : L2.St} {F H F0 H0 : Hp} {g g0 : Gm} {e tg : Expr} {mo : M Hd}
/-! ### comprehensions -/
theorem takes0 : Takes X W0 := fun u s' ⟨a, B, sI, pins, σ, H, cls, d, e, I, nb, up, sky, na, os, ag, w⟩ => w.elim
theorem sn_lc {elt iter : Expr} {ifs : List Expr} {scope : Scope} {own : List (Str × Nat)} {l : Option Nat} {it : M (List D)} {T : Tgt} {c : M Bool} {ee : M D} (hc : X.calm = true) (hN : X.N.Nodup) (hi : SI X W l tg iter it) (ok : BlkOk X.N X.env.scope scope own)
    (hg : ∀ (s : Shared) (H : Hp) (C : Addr) (cl : List (Str × Addr)) (fp : List Addr), SG (X.blk s H scope (compEnvC scope cl C X.env) fp) tg (own.map (·.2)) T)
    (ht : ∀ (s : Shared) (H : Hp) (C : Addr) (cl : List (Str × Addr)) (fp : List Addr), STs (X.blk s H scope (compEnvC scope cl C X.env) fp) ifs c)
    (he : ∀ (s : Shared) (H : Hp) (C : Addr) (cl : List (Str × Addr)) (fp : List Addr), SE (X.blk s H scope (compEnvC scope cl C X.env) fp) W0 elt ee) (hs : ∀ x, foldedSetIterable iter X.env x = pure x := by intro _; rfl) :
    SN X W (.ListComp elt [⟨tg, iter, ifs, 0⟩] scope pos) (mLc l it (own.map (·.2)) T c ee) :=
  PE_imp (pe_lc (g := tTg X.K (own.map fun p : Str × Nat => p.2) T) (tt := tG X.K W0 relB c) (te := tG X.K W0 (relE X.K) ee) hc hN hi ok hg ht he hs) fun σ H Q q => lc_reads q
theorem ss_setLc {i : Nat} {y : Str} {py spos : Pos} {elt iter : Expr} {ifs : List Expr} {scope : Scope} {own : List (Str × Nat)} {l : Option Nat} {it : M (List D)} {T : Tgt} {c : M Bool} {ee : M D} (hc : X.calm = true) (hN : X.N.Nodup) (hy : X.N[i]? = some y) (hyl : X.env.scope.names.lookup y = some .local)
    (hsw : swapsWith (.ListComp elt [⟨tg, iter, ifs, 0⟩] scope pos) (some (.Name y py)) spos.line X.env = pure true) (hi : SI X W l tg iter it) (ok : BlkOk X.N X.env.scope scope own)
    (hg : ∀ (s : Shared) (H : Hp) (C : Addr) (cl : List (Str × Addr)) (fp : List Addr), SG (X.blk s H scope (compEnvC scope cl C X.env) fp) tg (own.map (·.2)) T)
    (ht : ∀ (s : Shared) (H : Hp) (C : Addr) (cl : List (Str × Addr)) (fp : List Addr), STs (X.blk s H scope (compEnvC scope cl C X.env) fp) ifs c)
    (he : ∀ (s : Shared) (H : Hp) (C : Addr) (cl : List (Str × Addr)) (fp : List Addr), SE (X.blk s H scope (compEnvC scope cl C X.env) fp) W0 elt ee) (hs : ∀ x, foldedSetIterable iter X.env x = pure x := by intro _; rfl) :
    SS X W (.Assign [.Name y py] (.ListComp elt [⟨tg, iter, ifs, 0⟩] scope pos) spos) (mSetN i (mLc l it (own.map (·.2)) T c ee)) := PS_imp (ps_setLc (g := tTg X.K (own.map fun p : Str × Nat => p.2) T) (tt := tG X.K W0 relB c) (te := tG X.K W0 (relE X.K) ee) hc hN hy hyl hsw hi ok hg ht he hs) fun E σ H q => lc_reads (tSetN_ok q)
/-! ### writing to a cell -/
theorem Sta.wr {K : Frag} {i : Nat} {s : Sl} {d d' : D} {a : Addr} {o' : HO} (S : Sta K F g σ H) (e : g[i]? = some s) (hc : s.cell = some d) (ha : σ[i]? = some (some (V.ref a)))
    (hcell : Cell K F (upd H a o') a d') (hf : ∀ x, Foot (upd H a o') a x → Foot H a x) (hki : ∀ C dx fv, H a = some (.ins C dx fv) → ∃ fv', o' = .ins C dx fv') :
    Sta K F (g.set i (s.put d')) σ (upd H a o') ∧ Stp F H g σ F (upd H a o') (g.set i (s.put d')) σ := by
  have cg : (g[i]?).bind Sl.cell = some d := by rw [e]; exact hc
  obtain ⟨a', e1, c, n⟩ := S.cell cg
  rw [ha] at e1; cases e1
  have nF : F a = none := n a (.inl rfl)
  have il : i < g.length := (List.getElem?_eq_some_iff.mp e).1
  have pc : (s.put d').cell = some d' := by cases s <;> first | rfl | cases hc
  have other : ∀ {j : Nat} {f : D} {b : Addr}, j ≠ i → (g[j]?).bind Sl.cell = some f → σ[j]? = some (some (V.ref b)) → b ≠ a ∧ ∀ x, Foot H b x → ¬ Foot H a x := fun {j f b} ji c1 e2 =>
    ⟨fun z => by subst z; exact S.inj j i f d b b b ji c1 cg e2 ha (.inl rfl) (.inl rfl), fun x f1 f2 => S.inj j i f d b a x ji c1 cg e2 ha f1 f2⟩
  have ft : ∀ {b x : Addr}, b ≠ a → Foot (upd H a o') b x → Foot H b x := fun {b x} h f => by
    rcases f with f | ⟨C, fv, z⟩
    · exact .inl f
    · rw [upd_ne h] at z; exact .inr ⟨C, fv, z⟩
  have ow : ∀ x, Own (g.set i (s.put d')) σ (upd H a o') x → Own g σ H x := fun x ⟨j, f, b, c1, e2, f1⟩ => by
    rcases gset_bind c1 with ⟨rfl, h⟩ | ⟨h1, h2⟩
    · rw [ha] at e2; cases e2; exact ⟨j, d, a, cg, ha, hf x f1⟩
    · exact ⟨j, f, b, h2, e2, ft (other h1 h2 e2).1 f1⟩
  have own_a : Own g σ H a := ⟨i, d, a, cg, ha, .inl rfl⟩
  refine ⟨⟨fun x o q => ?_, by simpa using S.len, fun j t q => ?_, fun j k dj dk b1 b2 x jk c1 c2 e1 e2 f1 f2 => ?_, fun j dj b e1 e2 => ?_, S.tb.upd (fun u e => by obtain ⟨a2, e2, k, _⟩ := S.cell cg; rw [ha] at e2; cases e2; exact k.dt (.inl rfl) e) fun _ _ z => z⟩, ⟨Sub.refl _, fun x h => ?_, fun x o h1 nb h2 h3 => ?_, fun x o => .inl (ow x o), fun j dj q => ?_, fun j dj q => ?_, fun b C dx fv h => ?_⟩⟩
  · have : x ≠ a := fun z => by subst z; rw [nF] at q; cases q
    rw [upd_ne this]; exact S.sub _ _ q
  · rcases set_get q with ⟨rfl, rfl⟩ | ⟨h1, h2⟩
    · have z : ∃ a1, σ[j]? = some (some (V.ref a1)) ∧ Cell K F (upd H a o') a1 d' ∧ ∀ x, Foot (upd H a o') a1 x → F x = none := ⟨a, ha, hcell, fun x f => n x (hf x f)⟩
      cases s <;> first | exact z | cases hc
    · have k := S.slot j t h2
      have cell : ∀ {f : D}, t.cell = some f → (∃ b, σ[j]? = some (some (V.ref b)) ∧ Cell K F H b f ∧ ∀ x, Foot H b x → F x = none) → ∃ b, σ[j]? = some (some (V.ref b)) ∧ Cell K F (upd H a o') b f ∧ ∀ x, Foot (upd H a o') b x → F x = none := fun {f} hf' ⟨b, e1, cb, nb⟩ => by
        obtain ⟨ba, ap⟩ := other h1 (f := f) (by rw [h2]; exact hf') e1
        exact ⟨b, e1, cb.same (Sub.refl _) fun x o fx hx => by rw [upd_ne fun z => ap x fx (by rw [z]; exact .inl rfl)]; exact hx, fun x fx => nb x (ft ba fx)⟩
      cases t with
      | un => trivial
      | im f => exact k
      | ro f =>
        obtain ⟨v, e1, r⟩ := k
        refine ⟨v, e1, ?_⟩
        rcases r with r | ⟨b, rfl, cb, fb⟩
        · exact .inl r
        · rcases S.ro j f b h2 e1 with r | r
          · exact .inl r
          · have ba : b ≠ a := fun z => by subst z; exact r own_a
            exact .inr ⟨b, rfl, cb.same (Sub.refl _) fun x o fx hx => by rw [upd_ne (by rw [fb x fx]; exact ba)]; exact hx, fun x fx => fb x (ft ba fx)⟩
      | ow f => exact cell rfl k
      | mb f => exact cell rfl k
  · have pr : ∀ {j : Nat} {dj : D} {b x : Addr}, ((g.set i (s.put d'))[j]?).bind Sl.cell = some dj → σ[j]? = some (some (V.ref b)) → Foot (upd H a o') b x → ∃ d0, (g[j]?).bind Sl.cell = some d0 ∧ Foot H b x := fun {j dj b x} c1 e2 f1 => by
      rcases gset_bind c1 with ⟨rfl, h⟩ | ⟨h1, h2⟩
      · rw [ha] at e2; cases e2; exact ⟨d, cg, hf x f1⟩
      · exact ⟨dj, h2, ft (other h1 h2 e2).1 f1⟩
    obtain ⟨d1, k1, k2⟩ := pr c1 e1 f1
    obtain ⟨d2, k3, k4⟩ := pr c2 e2 f2
    exact S.inj j k d1 d2 b1 b2 x jk k1 k3 e1 e2 k2 k4
  · rcases set_get e1 with ⟨rfl, z⟩ | ⟨h1, h2⟩
    · rw [← z] at pc; cases pc
    · exact (S.ro j dj b h2 e2).imp id fun r o => r (ow b o)
  · by_cases z : x = a
    · subst z; rw [upd_same]; exact fun q => nomatch q
    · rw [upd_ne z]; exact h
  · have z : x ≠ a := fun z => by subst z; exact h3 own_a
    rw [upd_ne z]; exact ⟨h1, h2⟩
  · rcases set_get q with ⟨rfl, z⟩ | ⟨h1, h2⟩
    · rw [← z] at pc; cases pc
    · exact ⟨h2, rfl⟩
  · rcases set_get q with ⟨rfl, z⟩ | ⟨h1, h2⟩
    · cases s with
      | mb f => exact ⟨⟨_, e⟩, rfl⟩
      | ow f => cases z
      | _ => cases hc
    · exact ⟨⟨_, h2⟩, rfl⟩
  · by_cases z : b = a
    · subst z
      obtain ⟨fv', w⟩ := hki _ _ _ h
      exact ⟨fv', by rw [upd_same, w]⟩
    · exact ⟨fv, by rw [upd_ne z]; exact h⟩
/-- a write of a flat cell -/
def rC (K : Frag) (f : D → List D → Option (D × D)) : V → List V → Hp → VK → Prop := fun x xs H Q => ∃ F a d ds r d', Sub F H ∧ x = .ref a ∧ Cell K F H a d ∧ Reps K F xs ds ∧ f d ds = some (r, d') ∧
  ∀ v o', Cell K F (upd H a o') a d' → (∀ C dx fv, o' ≠ .ins C dx fv) → Rep K F v r → Q v (upd H a o')
def mWr (i : Nat) (f : D → List D → Option (D × D)) (ds : List D) : M D := fun g => match g[i]? with
  | some s => (match s.cell with
    | some d => (match d.flat, f d ds with
      | true, some (r, d') => some (.ok r (g.set i (s.put d')))
      | _, _ => none)
    | none => none)
  | none => none
theorem wr_ok {K : Frag} {i : Nat} {f : D → List D → Option (D × D)} {x : V} {xs : List V} {ds : List D} {Q : VK} (S : Sta X.K F g σ H) (P : Stp F0 H0 g0 σ F H g σ) (hx : σ[i]? = some (some x)) (r : Reps X.K F xs ds) (q : Pst X.K W σ (relE X.K) F0 H0 g0 Q (mWr i f ds g)) : rC X.K f x xs H Q := by
  unfold mWr at q
  cases e : g[i]? with
  | none => simp only [e] at q; exact q.elim
  | some s =>
    simp only [e] at q
    cases c : s.cell with
    | none => simp only [c] at q; exact q.elim
    | some d =>
      simp only [c] at q
      cases fl : d.flat with
      | false => simp only [fl] at q; exact q.elim
      | true =>
        cases o : f d ds with
        | none => simp only [fl, o] at q; exact q.elim
        | some p =>
          obtain ⟨y, d'⟩ := p
          simp only [fl, o] at q
          have cg : (g[i]?).bind Sl.cell = some d := by rw [e]; exact c
          obtain ⟨a, e1, k, n⟩ := S.cell cg
          rw [hx] at e1; cases e1
          refine ⟨F, a, d, ds, y, d', S.sub, rfl, k, r, o, fun v o' c' ni rv => ?_⟩
          obtain ⟨S2, P2⟩ := S.wr e c hx c' (fun z fz => .inl (foot_upd ni fz)) (fun C dx fv z => by
            have := flat_lst k (fun c' fs' z => by rw [z] at fl; cases fl) dx (.inr ⟨C, fv, z⟩)
            cases d with
            | lst xs => obtain ⟨vs, h1, _⟩ := k; rw [h1] at z; cases z
            | dik xs => obtain ⟨vs, h1, _⟩ := k; rw [h1] at z; cases z
            | dit xs => obtain ⟨vs, h1, _⟩ := k; rw [h1] at z; cases z
            | ins c' fs' => cases fl
            | _ => exact k.elim)
          exact q v F _ S2 (P.trans P2) rv
/-- x.name(args): x a slot -/
def isKindN (T : String) : D → Bool
  | .lst _ => T == "list"
  | .dik _ => T == "dict"
  | .dit _ => T == "dict"
  | _ => false
def mKindN (T : String) (i : Nat) : M Unit := fun g => match (Hd.nm i).rd g with
  | some d => if isKindN T d = true then some (.ok () g) else none
  | none => none
theorem rov_tyN {v : V} {d : D} {T : String} (s : Sub F H) (r : RoV X.K F H v d) (k : isKindN T d = true) : tyV X.K T v H := by
  cases d with
  | lst xs =>
    obtain ⟨p, vs, rfl, k1, k2⟩ := r.lst s
    exact .inl ⟨eq_of_beq (show (T == "list") = true from k), vs, .inl (.inl k1)⟩
  | dik xs =>
    have : ∃ a kvs, v = .ref a ∧ H a = some (.dK kvs) := by
      rcases r with r | ⟨a, rfl, ⟨kv, h, _⟩, _⟩
      · cases r with
        | dik h _ _ => exact ⟨_, _, rfl, s _ _ h⟩
      · exact ⟨_, _, rfl, h⟩
    obtain ⟨a, kvs, rfl, e⟩ := this
    exact .inr (.inr (.inl ⟨eq_of_beq (show (T == "dict") = true from k), .inl ⟨_, e⟩⟩))
  | dit xs =>
    have : ∃ a kvs, v = .ref a ∧ H a = some (.dT kvs) := by
      rcases r with r | ⟨a, rfl, ⟨kv, h, _⟩, _⟩
      · cases r with
        | dit h _ _ => exact ⟨_, _, rfl, s _ _ h⟩
      · exact ⟨_, _, rfl, h⟩
    obtain ⟨a, kvs, rfl, e⟩ := this
    exact .inr (.inr (.inl ⟨eq_of_beq (show (T == "dict") = true from k), .inr ⟨_, e⟩⟩))
  | _ => cases k
variable {o : Expr} {es : List Expr} {name x : Str} {apos cpos p : Pos} {T bid : String} {f : D → List D → Option (D × D)} {ma : M (List Hd)}
def mWm (T : String) (i : Nat) (f : D → List D → Option (D × D)) (ma : M (List Hd)) : M D := (mKindN T i).bind fun _ => ma.bind fun hs => (mFrzs hs).bind fun ds => mWr i f ds
theorem kindN_cases {T : String} {i : Nat} (S : Sta X.K F g σ H) : mKindN T i g = none ∨ (mKindN T i g = some (.ok () g) ∧ ∃ v, σ[i]? = some (some v) ∧ tyV X.K T v H) := by
  unfold mKindN
  cases e : (Hd.nm i).rd g with
  | none => exact .inl rfl
  | some d =>
    by_cases c : isKindN T d = true
    · have hv : ∃ v, σ[i]? = some (some v) := by
        cases q1 : g[i]? with
        | none => simp only [Hd.rd, q1] at e; cases e
        | some s =>
          have k := S.slot i s q1
          cases s with
          | un => simp only [Hd.rd, q1] at e; cases e
          | im d => obtain ⟨v, e1, _⟩ := k; exact ⟨v, e1⟩
          | ro d => obtain ⟨v, e1, _⟩ := k; exact ⟨v, e1⟩
          | ow d => obtain ⟨v, e1, _⟩ := k; exact ⟨_, e1⟩
          | mb d => obtain ⟨v, e1, _⟩ := k; exact ⟨_, e1⟩
      obtain ⟨v, hv⟩ := hv
      exact .inr ⟨by simp only [if_pos c], v, hv, rov_tyN S.sub (HdR.rov S (h := .nm i) hv e) c⟩
    · exact .inl (by simp only [if_neg c])
theorem kindN_ok {T : String} {i : Nat} {R : Prop} {γ δ : Type} {rel2 : Rl γ δ} {Q : δ → Hp → Prop} {k : Unit → M γ} (S : Sta X.K F g σ H) (q : Pst X.K W σ rel2 F0 H0 g0 Q (((mKindN T i).bind k) g)) (go : ∀ v, σ[i]? = some (some v) → tyV X.K T v H → Pst X.K W σ rel2 F0 H0 g0 Q (k () g) → R) : R := by
  unfold M.bind at q
  rcases kindN_cases (T := T) (i := i) S with h | ⟨h, v, hv, ty⟩
  · rw [h] at q; exact q.elim
  · rw [h] at q; exact go v hv ty q
theorem se_wm (i : Nat) (pa : PlainAttrs T) (slot : Slot T name bid) (hty : typeOf (.builtin bid) = pure (.type "method_descriptor")) (hm : MtR X bid (rC X.K f)) (hN : X.N[i]? = some x) (hv : Vis X.env.scope x) (ha : SA X W (e :: es) ma)
    (hd : (x == ("__debug__" : Str)) = false := by decide) (hcd : (x == ("__classdict__" : Str)) = false := by decide)
    (hbase : attributeBase (.Name x p) name X.env (eval (.Name x p) X.env) = eval (.Name x p) X.env := by rfl)
    (hfew : ((backTo cpos (starEach (e :: es) X.env)).all (fun x => !x.1) && (backToKw cpos (keywordEach [] X.env)).all (fun x => x.1.isSome)
      && decide ((e :: es).length + ([] : List Keyword).length + (if ([] : List Keyword).isEmpty then 0 else 1) < 30)) = true := by rfl)
    (hline : (apos.endLine == cpos.line) = true := by rfl) (hs : starEach (e :: es) X.env = (false, eval e X.env) :: starEach es X.env := by rfl) (hplain : (backTo cpos (starEach es X.env)).any (·.1) = false := by rfl) :
    SE X W (.Call (.Attribute (.Name x p) name apos) (e :: es) [] cpos) (mWm T i f ma) :=
  PE_imp (pe_bm pa slot hty hm (pe_var hN hv hd hcd) ha hbase hfew hline hs hplain) fun σ H Q q => by
    obtain ⟨F, g, S, q⟩ := q
    refine kindN_ok S q fun v hv ty q1 => ⟨v, hv, ty, F, g, S, Pst_bind Stp.refl q1 fun hs vs F1 H1 g1 S1 P1 P01 r1 q2 => ?_⟩
    exact mFrzs_ok (W := W) (R := fun vs H1 => rC X.K f v vs H1 Q) S1 Stp.refl r1 (Pst_bind P01 q2 fun ds ws F2 H2 g2 S2 P2 P02 r2 q3 => wr_ok (K := X.K) S2 P02 hv r2 q3)
/-! ### the methods -/
def fAppend : D → List D → Option (D × D)
  | .lst xs, [y] => if xs.length < 1000000 then some (.non, .lst (xs ++ [y])) else none
  | _, _ => none
def fSetL : D → List D → Option (D × D)
  | .lst xs, [.int k, y] => match ixN xs.length k with
    | some j => some (.non, .lst (xs.set j y))
    | none => none
  | _, _ => none
theorem reps1 {xs : List V} {d : D} {K : Frag} (r : Reps K F xs [d]) : ∃ v, xs = [v] ∧ Rep K F v d := by
  cases r with
  | cons a b => cases b; exact ⟨_, rfl, a⟩
theorem cell_lst {K : Frag} {a : Addr} {vs : List V} {ds : List D} (r : Reps K F vs ds) : Cell K F (upd H a (.lst vs)) a (.lst ds) := ⟨vs, upd_same, r⟩
theorem cm_append : MtR X "list.append" (rC X.K fAppend) := by
  intro pins s σ H x xs v us Q I rx rxs ⟨F, a, d, ds, r, d', sb, ex, c, rs, h, q⟩
  refine mt_append pins s σ H x xs v us Q I rx rxs ?_
  cases d with
  | lst zs =>
    obtain ⟨y, rfl⟩ := one_arg (f := fAppend (.lst zs)) h rfl fun a b r => rfl
    obtain ⟨w, rfl, r0⟩ := reps1 rs
    simp only [fAppend] at h
    by_cases l : zs.length < 1000000
    · rw [if_pos l] at h; cases h
      obtain ⟨vs, h1, h2⟩ := c
      exact ⟨a, vs, w, ex, rfl, h1, by rw [h2.length]; exact Nat.lt_of_lt_of_le l (by decide), q _ _ (cell_lst (h2.append (.cons r0 .nil))) (fun _ _ _ z => nomatch z) .non⟩
    · rw [if_neg l] at h; cases h
  | _ => cases h
theorem Reps.dropLast {K : Frag} {vs : List V} {ds : List D} (r : Reps K F vs ds) : Reps K F vs.dropLast ds.dropLast := by
  rw [List.dropLast_eq_take, List.dropLast_eq_take, r.length]; exact r.take _
/-! ### x[k] = e -/
def rS (K : Frag) (f : D → List D → Option (D × D)) : TSet := fun o i v H Q => rC K f o [i, v] H fun _ H' => Q H'
def mSetIx (T : String) (i : Nat) (f : D → List D → Option (D × D)) (p : M D) (mk : M D) : M Fl := p.bind fun d => (mKindN T i).bind fun _ => mk.bind fun k => (mWr i f [k, d]).bind fun _ => M.ret .nx
theorem ss_setIx {k : Expr} {pm mk : M D} {ps : Pos} (i : Nat) (hs : PSet X (rS X.K f)) (hN : X.N[i]? = some x) (hv : Vis X.env.scope x) (he : SE X W e pm) (hk : SE X W k mk)
    (hd : (x == ("__debug__" : Str)) = false := by decide) (hcd : (x == ("__classdict__" : Str)) = false := by decide)
    (ha : ∀ v, assign (.Subscript (.Name x p) k ps) X.env v = (do
      let ov ← holding [v] (eval (.Name x p) X.env)
      let iv ← holding [v, ov] (eval k X.env)
      standAt ps
      holding [v, ov, iv] (setItem ov iv v)
      release [v, ov, iv] []) := by intro _; rfl)
    (hsw : swapsWithSole [.Subscript (.Name x p) k ps] e pos.line X.env = pure false := by rfl) (hw : swappedStores [.Subscript (.Name x p) k ps] e X.env = pure none := by rfl)
    (h1 : (assignEach [.Subscript (.Name x p) k ps] X.env).map (·.2) = [assign (.Subscript (.Name x p) k ps) X.env] := by rfl) : SS X W (.Assign [.Subscript (.Name x p) k ps] e pos) (mSetIx T i f pm mk) :=
  PS_imp (ps_asg he (pg_sub (pe_var hN hv hd hcd) hk hs ha) hsw hw h1) fun E σ H q => by
  obtain ⟨F, g, S, q⟩ := q
  refine ⟨F, g, S, Pst_stm Stp.refl q fun d v F1 H1 g1 S1 P1 P01 r1 q1 => ?_⟩
  unfold M.bind at q1
  rcases kindN_cases (T := T) (i := i) S1 with h | ⟨h, w, hv, ty⟩
  · rw [h] at q1; exact q1.elim
  · rw [h] at q1
    refine ⟨w, hv, F1, g1, S1, Pst_stm P01 (f := fun k => (mWr i f [k, d]).bind fun _ => M.ret .nx) q1 fun kd kv F2 H2 g2 S2 P2 P02 r2 q2 => ?_⟩
    have q3 : Pst X.K W σ (relE X.K) F H g (fun _ H' => E.nx σ H') (mWr i f [kd, d] g2) := by
      unfold M.bind at q2
      cases o : mWr i f [kd, d] g2 with
      | none => rw [o] at q2; exact q2.elim
      | some z => cases z with
        | ok a g3 => rw [o] at q2; exact fun v F' H' S' P' _ => q2 F' σ H' S' P'
        | ex c g3 => rw [o] at q2; exact fun F' H' S' P' => q2 F' σ H' S' P'
    exact wr_ok (K := X.K) S2 P02 hv (.cons r2 (.cons (Rep.mono P2.fg r1) .nil)) q3
theorem wset_list : PSet X (rS X.K fSetL) := by
  intro pins s σ H o i v ov iv u Q I ro ri rv ⟨F, a, d, ds, r, d', sb, ex, c, rs, h, q⟩
  refine set_list pins s σ H o i v ov iv u Q I ro ri rv ?_
  cases d with
  | lst zs =>
    cases rs with
    | cons r0 rs => cases rs with
      | cons r1 rs => cases rs; rename_i d0 d1
                      cases d0 with
                      | int k =>
                        simp only [fSetL] at h
                        cases oj : ixN zs.length k with
                        | none => rw [oj] at h; cases h
                        | some j =>
                          rw [oj] at h; cases h
                          cases r0
                          obtain ⟨vs, h1, h2⟩ := c
                          exact ⟨a, vs, k, j, ex, rfl, h1, by rw [h2.length]; exact oj, q .non _ (cell_lst (h2.set r1 j)) (fun _ _ _ z => nomatch z) .non⟩
                      | _ => cases h
  | _ => cases h
end
end Cq

set_option Elab.async false
set_option linter.all false
set_option maxRecDepth 100000
namespace Cq
open PySem PySem.Spec PyProof.Rows L2
section
variable {P : Program} {w : World} {A : Around} {E : Value → Shared → Prop} {s : Shared}
end
end Cq

set_option Elab.async false
set_option linter.all false
set_option maxRecDepth 100000
namespace Cq
open PySem PySem.Spec PyProof.Rows L2
/-! ### the sorted members -/
section
variable {X : Cx} {W : WX} {pos : Pos} {σ : L2.St} {F H F0 H0 : Hp} {g g0 : Gm} {a : Expr} {ta : TE}
/-! ### by data -/
end
end Cq

set_option Elab.async false
set_option linter.all false
set_option maxRecDepth 100000
namespace Cq
open PySem PySem.Spec PyProof.Rows L2
/-! ### defs that are called where no repr runs -/
def FnG (P : Program) (w : World) (K : Frag) (mg : Str → Option Value) (base : Heap) (CX : CXT) (k : Nat) (f : Addr) (sp : Sp) : Prop :=
  ∀ (A : Around) (outer : List PySem.Env) (s : Shared) (H : Hp) (us : List Value) (vs : List V) (Q : VK) (E : XK), A.guards = some [] → Room k A → Env0 P w K mg base A outer s H → Vals vs us → sp vs H Q E →
    codeAny (model P w) A (.call (.ref f) ⟨us, []⟩) (CR CX outer P w H s Q E) s
theorem FnG.of {P : Program} {w : World} {K : Frag} {mg : Str → Option Value} {base : Heap} {CX : CXT} {k : Nat} {f : Addr} {sp : Sp} (F : FnR P w K mg base CX k f sp) : FnG P w K mg base CX k f sp := fun A outer s H us vs Q E _ => F A outer s H us vs Q E
section
variable {P : Program} {w : World} {K : Frag} {mg : Str → Option Value} {base : Heap} {x qual : Str} {params : Arguments} {body : List Stmt} {scope : Scope} {f : Addr} {fd : FuncData}
theorem fng {k : Nat} {N ps : List Str} {ms : List Md} {m : M Fl} (F : FunD K x qual params body scope [] [] f fd) (S : FnScope N ps scope) (hl : ms.length = ps.length)
    (hb : ∀ (kV doc pm : Value) (an : Option Addr) (cdv ct : Value) (us : List Value), us.length = ps.length → bindArgs (PySem.W.fnOf x qual params body scope .none kV doc pm an cdv ct) ⟨us, []⟩ = pure (ps.zip us))
    (hbody : ∀ (cdv : Value) (A : Around) (outer : List PySem.Env) (s : Shared) (H : Hp) (E : XK), (A.deeper (envOfC qual scope s.heap.objs.size f cdv)).guards = some [] → Room k (A.deeper (envOfC qual scope s.heap.objs.size f cdv)) → Takes (cxOf (L2.CX P w) P w K mg base N qual scope f cdv A outer s H E) (wE E) →
      PassesOwn (model P w) (A.deeper (envOfC qual scope s.heap.objs.size f cdv)) (envOfC qual scope s.heap.objs.size f cdv) (cxOf (L2.CX P w) P w K mg base N qual scope f cdv A outer s H E).xe →
      SSs (cxOf (L2.CX P w) P w K mg base N qual scope f cdv A outer s H E) (wE E) body m) :
    FnG P w K mg base (L2.CX P w) (k + 1) f (spF K ms (runDef ms N.length m)) := by
  have bnd := F.bindsN hb
  obtain ⟨oc, od, dV, kV, doc, pm, an, cdv, ct, osl, rfl, lk, hcd, _, _⟩ := F.ex
  intro A outer s H us vs Q E gd hr e0 r hsp
  have hl' : vs.length = ps.length := by obtain ⟨_, _, _, l, _⟩ := hsp; exact l.trans hl
  have hul : us.length = ps.length := by rw [← r.length]; exact hl'
  have KX : K.In s.heap := e0.mod.kin.keeps fun b o e => (e0.bs b o e).1
  have lim : s.heap.NoLimit := e0.mod.nolimit.keeps fun b o e => (e0.bs b o e).1
  have hkind : ∀ y ∈ ps.zip us, scope.names.lookup y.1 = some .local ∨ (scope.names.lookup y.1 = some .cell ∧ ((cellsFrom (s.heap.objs.size + 1) scope.names []).lookup y.1).isSome = true) := fun ⟨n, v⟩ hy => by
    rcases S.par n (List.of_mem_zip hy).1 with q | q
    · exact .inl q
    · exact .inr ⟨q, PySem.W.cellsFrom_some _ _ _ (.inl q)⟩
  have hbd := bnd s us KX (by rw [List.append_nil]; exact hul)
  rw [List.append_nil] at hbd
  refine codeAny_call_function hr.depth (KX _ _ lk) rfl S.co S.gen rfl (PySem.W.codeRec_of KX hcd) (hbd _ _ _ _ ?_)
  refine wpAny_newFunctionEnv_cells S.kind hkind fun env he s1 x => ?_
  subst he
  refine ⟨lim.keeps x.toInCall.keep, codeAny_func ?_⟩
  have ht := hbody cdv A outer s H E gd (hr.deeper _) (takes_of rfl rfl rfl rfl) (passes_of rfl)
  have hq : tS K (wE E) m { nx := fun _ H' => Q .non H', rt := Q } (start N vs) H := by
    have e : start N vs = vs.map some ++ List.replicate (N.length - ms.length) none := by
      unfold L2.start
      rw [hl', hl]
    rw [e]
    exact def_reads (fun _ _ _ z => z) hsp
  have I : Inv (cxOf (L2.CX P w) P w K mg base N qual scope f cdv A outer s H E) [] (start N vs) H s1 := inv_start S hr.hd e0 hl' r x
  refine wpAny_mono (ht.run [] s1 (start N vs) H _ I hq) (fun fl s' hs => ?_) fun e s' hs => hs
  have fin : ∀ {σ' : L2.St} {H' : Hp} {v : V} {u : Value}, Inv (cxOf (L2.CX P w) P w K mg base N qual scope f cdv A outer s H E) [] σ' H' s' → RelV v u → Q v H' → CE outer P w H s Q u s' :=
    fun {σ' H' v u} J rv q => ⟨v, H', J.os, J.bare, J.base, J.hok, rv, q⟩
  cases fl with
  | ret u =>
    obtain ⟨v, σ', H', J, rv, q⟩ := hs
    exact fin J rv q
  | next =>
    obtain ⟨σ', H', J, q⟩ := hs
    exact fin (v := V.non) (u := Value.none) J rfl q
  | brk =>
    obtain ⟨_, _, _, q⟩ := hs
    exact False.elim q
  | cont =>
    obtain ⟨_, _, _, q⟩ := hs
    exact False.elim q
end
section
variable {X : Cx} {W : WX} {pos p : Pos} {σ : L2.St} {F H F0 H0 : Hp} {g g0 : Gm}
theorem calR_fng {k : Nat} {f : Addr} {sp : Sp} (F : FnG X.prog X.w X.K X.mg X.base (L2.CX X.prog X.w) k f sp) (gd : X.A.guards = some []) (hr : Room k X.A) (tk : Takes X W) : CalR X W (.ref f) sp := by
  intro pins s σ H us vs Q I r h
  refine wpAny_call (codeAny_mono (F X.A X.stack s H us vs Q (WE W σ) gd hr I.env0 r h) fun r s' hq => ?_)
  cases r with
  | error e => exact passAt tk σ pins H s e s' I hq
  | ok fl =>
    cases fl with
    | ret u => exact I.after hq
    | next => exact False.elim hq
    | brk => exact False.elim hq
    | cont => exact False.elim hq
/-! ### repr -/
end
end Cq
namespace L2
open PySem PySem.Spec PyProof.Rows Cq
end L2

set_option Elab.async false
set_option linter.all false
set_option maxRecDepth 100000
namespace Cq
open PySem PySem.Spec PyProof.Rows L2
section
variable {X : Cx} {W : WX} {pos : Pos} {σ : L2.St} {F H F0 H0 : Hp} {g g0 : Gm} {e : Expr} {ma : M (List Hd)}
def mPar (i j : Nat) (ma : M (List Hd)) : M Fl := ma.bind fun hs => (mFrzs hs).bind fun ds => fun g => match ds with
  | [d, e] => some (.ok .nx ((g.set i (.im d)).set j (.im e)))
  | _ => none
theorem ss_par {i j : Nat} {x y : Str} {a b : Expr} {px py pt : Pos} {kt k2 pt2} (hc : X.calm = true) (hN : X.N.Nodup) (hi : X.N[i]? = some x) (hj : X.N[j]? = some y) (hij : i ≠ j)
    (hx : X.env.scope.names.lookup x = some .local) (hy : X.env.scope.names.lookup y = some .local) (ha : SA X W [a, b] ma)
    (hw : swappedStores [.Tuple [.Name x px, .Name y py] kt pt] (.Tuple [a, b] k2 pt2) X.env = pure (some [x, y]))
    (hs : swapsWithSole [.Tuple [.Name x px, .Name y py] kt pt] (.Tuple [a, b] k2 pt2) pos.line X.env = pure false := by rfl) :
    SS X W (.Assign [.Tuple [.Name x px, .Name y py] kt pt] (.Tuple [a, b] k2 pt2) pos) (mPar i j ma) :=
  PS_imp (ps_par hc hN hi hj hij hx hy ha hw hs) fun E σ H q => by
  obtain ⟨F, g, S, q⟩ := q
  refine ⟨F, g, S, Pst_stm Stp.refl q fun hs vs F1 H1 g1 S1 P1 P01 r1 q1 => ?_⟩
  refine mFrzs_ok (W := W) (R := fun vs H1 => ∃ v w, vs = [v, w] ∧ E.nx ((σ.set i (some v)).set j (some w)) H1) S1 Stp.refl r1 (Pst_stm P01 q1 fun ds ws F2 H2 g2 S2 P2 P02 r2 q2 => ?_)
  cases r2 with
  | nil => exact q2.elim
  | cons r rs => cases rs with
    | nil => exact q2.elim
    | cons r' rs => cases rs with
      | cons _ _ => exact q2.elim
      | nil =>
        obtain ⟨S3, P3⟩ := S2.setIm i r
        obtain ⟨S4, P4⟩ := S3.setIm j r'
        exact ⟨_, _, rfl, q2 F2 _ H2 S4 (P02.trans (P3.trans P4))⟩
end
end Cq

set_option Elab.async false
set_option linter.all false
set_option maxRecDepth 100000
namespace Cq
open PySem PySem.Spec PyProof.Rows L2
section
variable {X : Cx} {W : WX} {pos p apos : Pos} {σ : L2.St} {F H F0 H0 : Hp} {g g0 : Gm} {e o : Expr} {es : List Expr} {ma : M (List Hd)} {mo : M Hd} {x : Str} {u : Value}
/-! ### calls of code -/
def CodR (X : Cx) (W : WX) (g : Addr) (sp : Sp) : Prop := ∀ (pins : List (Addr × Obj)) (s : Shared) (σ : L2.St) (H : Hp) (us : List Value) (vs : List V) (Q : VK), Inv X pins σ H s → Vals vs us → sp vs H Q (WE W σ) →
  codeAny (model X.prog X.w) X.A (.call (.ref g) ⟨us, []⟩) (fun r s' => match r with | .ok (.ret v) => EP X pins σ Q v s' | .ok _ => False | .error e => X.xe e s') s
theorem codR_fn {k : Nat} {f : Addr} {sp : Sp} (F : FnR X.prog X.w X.K X.mg X.base (L2.CX X.prog X.w) k f sp) (hr : Room k X.A) (tk : Takes X W) : CodR X W f sp := by
  intro pins s σ H us vs Q I r h
  refine codeAny_mono (F X.A X.stack s H us vs Q (WE W σ) hr I.env0 r h) fun r s' hq => ?_
  cases r with
  | error e => exact passAt tk σ pins H s e s' I hq
  | ok fl =>
    cases fl with
    | ret u => exact I.after hq
    | next => exact False.elim hq
    | brk => exact False.elim hq
    | cont => exact False.elim hq
/-! ### making an instance -/
def spMk (C : Addr) (sp : Sp) : Sp := fun vs H Q E => ∀ x dx, H x = Option.none → H dx = Option.none → dx ≠ x → sp (V.ref x :: vs) (upd (upd H dx (.own x)) x (.ins C dx [])) (fun v H2 => v = .non ∧ Q (.ref x) H2) E
theorem calR_mk {k : Nat} {C f : Addr} {sp : Sp} (M : Mk X.K C f) (F : FnR X.prog X.w X.K X.mg X.base (L2.CX X.prog X.w) k f sp) (hr : Room (k + 1) X.A) (tk : Takes X W) : CalR X W (.ref C) (spMk C sp) := by
  intro pins s σ H us vs Q I r h
  have hq := h (s.heap.objs.size + 1) s.heap.objs.size (I.hok.fresh (Nat.le_succ _)) (I.hok.fresh (Nat.le_refl _)) (Nat.ne_of_lt (Nat.lt_succ_self _))
  have I2 := Inv.made (C := C) I
  have r2 : Vals (V.ref (s.heap.objs.size + 1) :: vs) (Value.ref (s.heap.objs.size + 1) :: us) := .cons rfl r
  refine wpAny_call (make_map (f := f) I.kIn M.makes M.init (beq_iff_eq.mp M.fn) (codeAny_mono (F _ X.stack _ _ (Value.ref (s.heap.objs.size + 1) :: us) _ _ (WE W σ) (hr.make C us []) (I2.env0.make C us []) r2 hq) fun r s' hq' => ?_))
  cases r with
  | error e => exact passAt tk σ pins _ _ e s' I2 hq'
  | ok fl =>
    cases fl with
    | ret u =>
      obtain ⟨v, H', I3, rv, ev, q3⟩ := I2.after hq'
      subst ev
      exact ⟨rv, ⟨V.ref (s.heap.objs.size + 1), H', I3, rfl, q3⟩⟩
    | next => exact False.elim hq'
    | brk => exact False.elim hq'
    | cont => exact False.elim hq'
/-- what is left over is a new tuple -/
def spStar (n : Nat) (sp : Sp) : Sp := fun vs H Q E => ∃ ws rest, vs = ws ++ rest ∧ ws.length = n ∧ rest.length ≤ sizeLine ∧ ∀ p, H p = Option.none → sp (ws ++ [V.ref p]) (upd H p (.tup rest)) Q E
/-! ### the state with one slot more -/
theorem Sta.pop {K : Frag} {s : Sl} {so : Option V} (S : Sta K F (g ++ [s]) (σ ++ [so]) H) (l : g.length = σ.length) : Sta K F g σ H ∧ ∀ x, Own g σ H x → Own (g ++ [s]) (σ ++ [so]) H x := by
  have gi : ∀ {i : Nat} {t : Sl}, g[i]? = some t → (g ++ [s])[i]? = some t ∧ (σ ++ [so])[i]? = σ[i]? := fun {i t} e => by
    have lt := (List.getElem?_eq_some_iff.mp e).1
    exact ⟨by rw [List.getElem?_append_left lt]; exact e, List.getElem?_append_left (by rw [← l]; exact lt)⟩
  have gc : ∀ {i : Nat} {d : D}, (g[i]?).bind Sl.cell = some d → ((g ++ [s])[i]?).bind Sl.cell = some d ∧ (σ ++ [so])[i]? = σ[i]? := fun {i d} c => by
    cases e : g[i]? with
    | none => rw [e] at c; cases c
    | some t => rw [e] at c; rw [(gi e).1]; exact ⟨c, (gi e).2⟩
  have ow : ∀ x, Own g σ H x → Own (g ++ [s]) (σ ++ [so]) H x := fun x ⟨i, d, a, c, e, f⟩ => ⟨i, d, a, (gc c).1, by rw [(gc c).2]; exact e, f⟩
  refine ⟨⟨S.sub, l, fun i t e => ?_, fun i j d e a b x ij c1 c2 e1 e2 => ?_, fun i d a e1 e2 => ?_, S.tb⟩, ow⟩
  · have := S.slot i t (gi e).1
    rw [(gi e).2] at this; exact this
  · exact S.inj i j d e a b x ij (gc c1).1 (gc c2).1 (by rw [(gc c1).2]; exact e1) (by rw [(gc c2).2]; exact e2)
  · exact (S.ro i d a (gi e1).1 (by rw [(gi e1).2]; exact e2)).imp id fun r o => r (ow a o)
theorem argDs_va {K : Frag} : ∀ {ds : List D}, argDs g (List.replicate ds.length .im) (ds.map .va) = some ds
  | [] => rfl
  | d :: ds => by simp only [List.length_cons, List.replicate_succ, List.map_cons, argDs, argD, argDs_va (K := K) (ds := ds)]
theorem apart_va : ∀ {ds : List D}, apartB (List.replicate ds.length .im) (ds.map .va) = true
  | [] => rfl
  | d :: ds => by simp only [List.length_cons, List.replicate_succ, List.map_cons, apartB, apart_va (ds := ds)]
theorem put_va {es : List D} : ∀ {ds : List D}, putMu (List.replicate ds.length .im) (ds.map .va) es g = some g
  | [] => by simp [putMu]
  | d :: ds => by simp only [List.length_cons, List.replicate_succ, List.map_cons, putMu, put_va (ds := ds)]
theorem HdsR.va {K : Frag} : ∀ {vs : List V} {ds : List D}, Reps K F vs ds → HdsR K F σ (ds.map .va) vs
  | _, _, .nil => .nil
  | _, _, .cons r t => .cons r (HdsR.va t)
def mMk (c : Nat) (f : Fn) (ds : List D) : M D := fun g => match f (.ins c [] :: ds) with
  | some (.ret .non [d]) => some (.ok d g)
  | some (.exc k [_]) => some (.ex k g)
  | _ => none
theorem mk_ok {c : Nat} {f : Fn} {vs : List V} {ds : List D} {Q : VK} (S : Sta X.K F g σ H) (P0 : Stp F0 H0 g0 σ F H g σ) (r : Reps X.K F vs ds) (q : Pst X.K W σ (relN X.K) F0 H0 g0 Q (mMk c f ds g)) :
    spMk (ca X.K c) (spF X.K (.mu :: List.replicate ds.length .im) f) vs H Q (WE W σ) := by
  intro x dx hx hdx ne
  have lg := S.len
  have Se : Sta X.K F (g ++ [.un]) (σ ++ [none]) H := S.ext (n := 1)
  have A1 : Al F H F (upd H dx (.own x)) := Al.mkN S.sub hdx
  have hx1 : upd H dx (.own x) x = none := by rw [upd_ne ne.symm]; exact hx
  have A : Al F H F (upd (upd H dx (.own x)) x (.ins (ca X.K c) dx [])) := A1.trans (Al.mkN A1.sub hx1)
  generalize hH1 : upd (upd H dx (.own x)) x (.ins (ca X.K c) dx []) = H1 at A ⊢
  have atx : H1 x = some (.ins (ca X.K c) dx []) := by rw [← hH1]; exact upd_same
  have atd : H1 dx = some (.own x) := by rw [← hH1, upd_ne ne]; exact upd_same
  have foot : ∀ y, Foot H1 x y → y = x ∨ y = dx := fun y f => by
    rcases f with f | ⟨C, fv, e⟩
    · exact .inl f
    · rw [atx] at e; cases e; exact .inr rfl
  have footH : ∀ y, Foot H1 x y → H y = none := fun y f => by
    rcases foot y f with rfl | rfl
    · exact hx
    · exact hdx
  obtain ⟨Se1, Pe1⟩ := Se.al A
  have c0 : Cell X.K F H1 x (.ins c []) := ⟨dx, [], atx, atd, rfl, .nil⟩
  have notown : ∀ y, Foot H1 x y → ¬ Own (g ++ [Sl.un]) (σ ++ [none]) H1 y := fun y f ow => by
    obtain ⟨u, hu⟩ := Se.own_at (Se.own_al A.hg ow)
    rw [footH y f] at hu; cases hu
  obtain ⟨S2, P2⟩ := Se1.setOw Pe1 g.length c0 (fun y f => ⟨sub_none S.sub (footH y f), notown y f, footH y f⟩) Se
  have eg : ∀ t : Sl, (g ++ [Sl.un]).set g.length t = g ++ [t] := fun t => by simp
  have es : ∀ t : Option V, (σ ++ [none]).set g.length t = σ ++ [t] := fun t => by rw [lg]; simp
  rw [eg, es] at S2 P2
  have hd : HdsR X.K F (σ ++ [some (V.ref x)]) (.nm g.length :: ds.map .va) (V.ref x :: vs) := .cons (show (σ ++ [some (V.ref x)])[g.length]? = _ by rw [lg]; simp) (HdsR.va r)
  have ad : argDs (g ++ [.ow (.ins c [])]) (.mu :: List.replicate ds.length .im) (.nm g.length :: ds.map .va) = some (.ins c [] :: ds) := by
    simp [argDs, argD, argDs_va (K := X.K), Sl.cell]
  have ap : apartB (.mu :: List.replicate ds.length .im) (.nm g.length :: ds.map .va) = true := by
    simp [apartB, apart_va, Hd.isNm]
  obtain ⟨l1, l2, Sp⟩ := callee_sta S2 hd ad ap
  refine ⟨F, .ins c [] :: ds, l1, l2, Sp, ?_⟩
  -- back
  have back : ∀ {es' : List D} {F' H' : Hp} {d : D}, es' = [d] → Sta X.K F' (gAft (.mu :: List.replicate ds.length .im) (.ins c [] :: ds) es') ((V.ref x :: vs).map some) H' →
      Stp F H1 (gOf (.mu :: List.replicate ds.length .im) (.ins c [] :: ds)) ((V.ref x :: vs).map some) F' H' (gAft (.mu :: List.replicate ds.length .im) (.ins c [] :: ds) es') ((V.ref x :: vs).map some) →
      Sta X.K F' g σ H' ∧ Stp F H g σ F' H' g σ ∧ relN X.K σ H0 F' H' g d (.ref x) := fun {es' F' H' d} ee S' P' => by
    subst ee
    have pm : putMu (.mu :: List.replicate ds.length .im) (.nm g.length :: ds.map .va) [d] (g ++ [.ow (.ins c [])]) = some (g ++ [.ow d]) := by
      have e1 : (g ++ [Sl.ow (.ins c [])])[g.length]? = some (.ow (.ins c [])) := by simp
      have e2 : (g ++ [Sl.ow (.ins c [])]).set g.length (.ow d) = g ++ [.ow d] := by simp
      simp only [putMu, e1, Sl.put, e2]
      exact put_va
    obtain ⟨S3, P3, O3⟩ := call_back S2 hd ad ap pm S' P'
    obtain ⟨S4, O4⟩ := S3.pop lg
    have P4 := P2.trans P3
    have hgl : (g ++ [Sl.ow d])[g.length]? = some (.ow d) := by simp
    have hsl : (σ ++ [some (V.ref x)])[g.length]? = some (some (V.ref x)) := by rw [lg]; simp
    obtain ⟨a, e1, k, n⟩ := S3.slot _ _ hgl
    rw [hsl] at e1; cases e1
    have foot' : ∀ y, Foot H' x y → Foot H1 x y := fun y f => by
      rcases f with f | ⟨C, fv, e⟩
      · exact .inl f
      · obtain ⟨fv', z⟩ := P3.ki _ _ _ _ atx
        rw [z] at e; cases e
        exact .inr ⟨_, _, atx⟩
    refine ⟨S4, ⟨P4.fg, P4.st, fun y o h1 nb h2 h3 => P4.fr y o h1 nb h2 fun ow => h3 (own_ext (n := 1) (k := 1) S ow), fun y ow => ?_, fun i d h => ⟨h, rfl⟩, fun i d h => ⟨⟨d, h⟩, rfl⟩, P4.ki⟩, x, rfl, k, fun y f => ⟨n y f, fun ow => ?_, ?_⟩⟩
    · exact (P4.own y (O4 y ow)).imp (fun o => own_ext (n := 1) (k := 1) S o) id
    · obtain ⟨j, dj, b, c1, e2, f1⟩ := ow
      have lt : j < g.length := by
        cases e : g[j]? with
        | none => rw [e] at c1; cases c1
        | some t => exact (List.getElem?_eq_some_iff.mp e).1
      exact S3.inj j g.length dj d b x y (Nat.ne_of_lt lt) (by rw [List.getElem?_append_left lt]; exact c1) (by rw [hgl]; rfl) (by rw [List.getElem?_append_left (by rw [← lg]; exact lt)]; exact e2) hsl f1 f
    · exact Classical.byContradiction fun h0 => P0.st y h0 (footH y (foot' y f))
  unfold mMk at q
  cases hf : f (.ins c [] :: ds) with
  | none => simp only [hf] at q; exact q.elim
  | some fr =>
    cases fr with
    | new d es' => simp only [hf] at q; exact q.elim
    | ret d es' =>
      simp only [hf] at q
      cases d with
      | non =>
        cases es' with
        | nil => exact q.elim
        | cons d es' => cases es' with
          | cons _ _ => exact q.elim
          | nil =>
            intro v F' H' S' P' rv
            obtain ⟨z1, z2, z3⟩ := back rfl S' P'
            cases rv
            exact ⟨rfl, q _ F' H' z1 (P0.trans z2) z3⟩
      | _ => exact q.elim
    | exc k es' =>
      simp only [hf] at q
      cases es' with
      | nil => exact q.elim
      | cons d es' => cases es' with
        | cons _ _ => exact q.elim
        | nil =>
          intro F' H' S' P'
          obtain ⟨z1, z2, _⟩ := back rfl S' P'
          exact q F' H' z1 (P0.trans z2)
end
end Cq

set_option Elab.async false
set_option linter.all false
set_option maxRecDepth 100000
namespace Cq
open PySem PySem.Spec PyProof.Rows L2
/-! ### fields by number -/
theorem fname_inj : ∀ i j : Nat, i < 5 → j < 5 → fname i = fname j → i = j := by
  intro i j hi hj h
  match i, j, hi, hj with
  | 0, 0, _, _ => rfl
  | 1, 1, _, _ => rfl
  | 2, 2, _, _ => rfl
  | 3, 3, _, _ => rfl
  | 4, 4, _, _ => rfl
  | 0, 1, _, _ => exact absurd h (by decide)
  | 0, 2, _, _ => exact absurd h (by decide)
  | 0, 3, _, _ => exact absurd h (by decide)
  | 0, 4, _, _ => exact absurd h (by decide)
  | 1, 0, _, _ => exact absurd h (by decide)
  | 1, 2, _, _ => exact absurd h (by decide)
  | 1, 3, _, _ => exact absurd h (by decide)
  | 1, 4, _, _ => exact absurd h (by decide)
  | 2, 0, _, _ => exact absurd h (by decide)
  | 2, 1, _, _ => exact absurd h (by decide)
  | 2, 3, _, _ => exact absurd h (by decide)
  | 2, 4, _, _ => exact absurd h (by decide)
  | 3, 0, _, _ => exact absurd h (by decide)
  | 3, 1, _, _ => exact absurd h (by decide)
  | 3, 2, _, _ => exact absurd h (by decide)
  | 3, 4, _, _ => exact absurd h (by decide)
  | 4, 0, _, _ => exact absurd h (by decide)
  | 4, 1, _, _ => exact absurd h (by decide)
  | 4, 2, _, _ => exact absurd h (by decide)
  | 4, 3, _, _ => exact absurd h (by decide)
  | i + 5, _, hi, _ => omega
  | _, j + 5, _, hj => omega
def okF (fs : List (Nat × D)) : Bool := fs.all fun p => decide (p.1 < 5)
def putN (n : Nat) (d : D) : List (Nat × D) → List (Nat × D)
  | [] => [(n, d)]
  | (m, e) :: r => if m = n then (m, d) :: r else (m, e) :: putN n d r
section
variable {K : Frag} {F H : Hp}
theorem okF_cons {p : Nat × D} {fs : List (Nat × D)} (h : okF (p :: fs) = true) : p.1 < 5 ∧ okF fs = true := by
  unfold okF at h
  simp only [List.all_cons, Bool.and_eq_true, decide_eq_true_eq] at h
  exact h
theorem look_rep {n : Nat} {d : D} (hn : n < 5) : ∀ {fv : List (Str × V)} {fs : List (Nat × D)}, okF fs = true → fv.map (·.1) = fs.map (fun p => fname p.1) → Reps K F (fv.map (·.2)) (fs.map (·.2)) → fs.lookup n = some d → ∃ v, fv.lookup (fname n) = some v ∧ Rep K F v d
  | [], [], _, _, _, e => by cases e
  | [], _ :: _, _, m, _, _ => by cases m
  | _ :: _, [], _, m, _, _ => by cases m
  | (k, v) :: fv, (m, e) :: fs, ok, hm, r, h => by
    obtain ⟨o1, o2⟩ := okF_cons ok
    simp only [List.map_cons, List.cons.injEq] at hm
    obtain ⟨h1, h2⟩ := hm
    cases r with
    | cons r rs =>
      by_cases c : n = m
      · subst c
        simp only [List.lookup_cons, beq_self_eq_true] at h
        cases h
        exact ⟨v, by simp only [List.lookup_cons]; rw [h1]; simp, r⟩
      · have c' : (n == m) = false := by simpa using c
        simp only [List.lookup_cons, c'] at h
        obtain ⟨w, e1, e2⟩ := look_rep hn o2 h2 rs h
        refine ⟨w, ?_, e2⟩
        have : (fname n == k) = false := by
          rw [h1]
          cases q : fname n == fname m with
          | false => rfl
          | true => exact absurd (fname_inj n m hn o1 (eq_of_beq q)) c
        simp only [List.lookup_cons, this]; exact e1
theorem look_none {m : Str} (hm : ∀ i : Nat, i < 5 → (m == fname i) = false) : ∀ {fv : List (Str × V)} {fs : List (Nat × D)}, okF fs = true → fv.map (·.1) = fs.map (fun p => fname p.1) → fv.lookup m = none
  | [], _, _, _ => rfl
  | _ :: _, [], _, h => by cases h
  | (k, v) :: fv, (n, e) :: fs, ok, h => by
    obtain ⟨o1, o2⟩ := okF_cons ok
    simp only [List.map_cons, List.cons.injEq] at h
    obtain ⟨h1, h2⟩ := h
    have c : (m == k) = false := by rw [h1]; exact hm n o1
    simp only [List.lookup_cons, c]
    exact look_none hm o2 h2
theorem put_rep {n : Nat} {d : D} {v : V} (hn : n < 5) (rv : Rep K F v d) : ∀ {fv : List (Str × V)} {fs : List (Nat × D)}, okF fs = true → fv.map (·.1) = fs.map (fun p => fname p.1) → Reps K F (fv.map (·.2)) (fs.map (·.2)) →
    (putF (fname n) v fv).map (·.1) = (putN n d fs).map (fun p => fname p.1) ∧ Reps K F ((putF (fname n) v fv).map (·.2)) ((putN n d fs).map (·.2))
  | [], [], _, _, _ => ⟨rfl, .cons rv .nil⟩
  | [], _ :: _, _, m, _ => by cases m
  | _ :: _, [], _, m, _ => by cases m
  | (k, w) :: fv, (m, e) :: fs, ok, hm, r => by
    obtain ⟨o1, o2⟩ := okF_cons ok
    simp only [List.map_cons, List.cons.injEq] at hm
    obtain ⟨h1, h2⟩ := hm
    cases r with
    | cons r rs =>
      unfold putF putN
      by_cases c : m = n
      · subst c
        rw [if_pos h1, if_pos rfl]
        exact ⟨by simp [h1, h2], .cons rv rs⟩
      · have c' : ¬ k = fname n := fun z => c (fname_inj m n o1 hn (h1.symm.trans z))
        rw [if_neg c', if_neg c]
        obtain ⟨z1, z2⟩ := put_rep hn rv o2 h2 rs
        exact ⟨by simp [h1, z1], .cons r z2⟩
end
/-- the instance that a handle names -/
def Sl.ins : Sl → Option (Nat × List (Nat × D))
  | .im (.ins c fs) => some (c, fs)
  | .ro (.ins c fs) => some (c, fs)
  | .ow (.ins c fs) => some (c, fs)
  | .mb (.ins c fs) => some (c, fs)
  | _ => none
def Hd.ins (g : Gm) : Hd → Option (Nat × List (Nat × D))
  | .va (.ins c fs) => some (c, fs)
  | .va _ => none
  | .nm i => (g[i]?).bind Sl.ins
section
variable {X : Cx} {W : WX} {pos p apos : Pos} {σ : L2.St} {F H F0 H0 : Hp} {g g0 : Gm} {e o : Expr} {es : List Expr} {ma : M (List Hd)} {mo : M Hd} {x : Str} {u : Value}
theorem cell_ins {K : Frag} {a : Addr} {c : Nat} {fs : List (Nat × D)} (h : Cell K F H a (.ins c fs)) : ∃ dx fv, H a = some (.ins (ca K c) dx fv) ∧ fv.map (·.1) = fs.map (fun p => fname p.1) ∧ Reps K F (fv.map (·.2)) (fs.map (·.2)) := by
  obtain ⟨dx, fv, e, _, m, r⟩ := h
  exact ⟨dx, fv, e, m, r⟩
theorem rep_ins {K : Frag} {v : V} {c : Nat} {fs : List (Nat × D)} (s : Sub F H) (h : Rep K F v (.ins c fs)) : ∃ a dx fv, v = .ref a ∧ H a = some (.ins (ca K c) dx fv) ∧ fv.map (·.1) = fs.map (fun p => fname p.1) ∧ Reps K F (fv.map (·.2)) (fs.map (·.2)) := by
  cases h with
  | ins e _ m r => exact ⟨_, _, _, rfl, s _ _ e, m, r⟩
theorem ins_at {K : Frag} {h : Hd} {v : V} {c : Nat} {fs : List (Nat × D)} (S : Sta K F g σ H) (r : HdR K F σ h v) (e : h.ins g = some (c, fs)) :
    ∃ a dx fv, v = .ref a ∧ H a = some (.ins (ca K c) dx fv) ∧ fv.map (·.1) = fs.map (fun p => fname p.1) ∧ Reps K F (fv.map (·.2)) (fs.map (·.2)) := by
  cases h with
  | va d =>
    cases d with
    | ins c' fs' => cases e; exact rep_ins S.sub r
    | _ => cases e
  | nm i =>
    have r : σ[i]? = some (some v) := r
    cases q : g[i]? with
    | none => simp only [Hd.ins, q] at e; cases e
    | some s =>
      have k := S.slot i s q
      simp only [Hd.ins, q] at e
      have e : s.ins = some (c, fs) := e
      have cell : ∀ {d : D}, d = .ins c fs → (∃ a, σ[i]? = some (some (V.ref a)) ∧ Cell K F H a d ∧ ∀ x, Foot H a x → F x = none) → ∃ a dx fv, v = .ref a ∧ H a = some (.ins (ca K c) dx fv) ∧ fv.map (·.1) = fs.map (fun p => fname p.1) ∧ Reps K F (fv.map (·.2)) (fs.map (·.2)) := fun {d} hd ⟨a, e1, cc, _⟩ => by
        subst hd
        rw [r] at e1; cases e1
        obtain ⟨dx, fv, z⟩ := cell_ins cc
        exact ⟨a, dx, fv, rfl, z⟩
      cases s with
      | un => cases e
      | im d =>
        cases d with
        | ins c' fs' =>
          cases e
          obtain ⟨w, e1, z⟩ := k
          rw [r] at e1; cases e1
          exact rep_ins S.sub z
        | _ => cases e
      | ro d =>
        cases d with
        | ins c' fs' =>
          cases e
          obtain ⟨w, e1, z⟩ := k
          rw [r] at e1; cases e1
          rcases z with z | ⟨a, rfl, cc, _⟩
          · exact rep_ins S.sub z
          · obtain ⟨dx, fv, z⟩ := cell_ins cc
            exact ⟨a, dx, fv, rfl, z⟩
        | _ => cases e
      | ow d => cases d with
        | ins c' fs' => cases e; exact cell rfl k
        | _ => cases e
      | mb d => cases d with
        | ins c' fs' => cases e; exact cell rfl k
        | _ => cases e
/-! ### o.f, a field -/
def mFld (cs : List Nat) (n : Nat) (h : Hd) : M D := fun g => match h.ins g with
  | some (c, fs) => (match cs.contains c && okF fs && decide (n < 5), fs.lookup n with
    | true, some d => some (.ok d g)
    | _, _ => none)
  | none => none
theorem se_fld {cs : List Nat} (n : Nat) (hC : ∀ c ∈ cs, Cls X.K (ca X.K c) ∧ NoAttr X.K (ca X.K c) (fname n)) (he : SO X W e mo) (hb : attributeBase e (fname n) X.env (eval e X.env) = eval e X.env := by rfl) : SE X W (.Attribute e (fname n) pos) (mo.bind (mFld cs n)) :=
  PE_imp (pe_fld he hb) fun σ H Q q => by
  obtain ⟨F, g, S, q⟩ := q
  refine ⟨F, g, S, Pst_bind Stp.refl q fun h v F1 H1 g1 S1 P1 P01 r1 q1 => ?_⟩
  unfold mFld at q1
  cases hi : h.ins g1 with
  | none => simp only [hi] at q1; exact q1.elim
  | some cf =>
    obtain ⟨c, fs⟩ := cf
    simp only [hi] at q1
    cases b : cs.contains c && okF fs && decide (n < 5) with
    | false => simp only [b] at q1; exact q1.elim
    | true =>
      cases l : fs.lookup n with
      | none => simp only [b, l] at q1; exact q1.elim
      | some d =>
        simp only [b, l] at q1
        simp only [Bool.and_eq_true, decide_eq_true_eq] at b
        obtain ⟨⟨b1, b2⟩, b3⟩ := b
        obtain ⟨hc1, hc2⟩ := hC c (by simpa using b1)
        obtain ⟨a, dx, fv, rfl, ea, hm, hr⟩ := ins_at S1 r1 hi
        obtain ⟨w, lw, rw'⟩ := look_rep b3 b2 hm hr l
        exact ⟨a, ca X.K c, dx, fv, w, rfl, ea, hc1, hc2, lw, q1 _ F1 H1 S1 P01 rw'⟩
/-! ### x.f = e -/
def mStF (cs : List Nat) (i n : Nat) (p : M D) : M Fl := p.bind fun d => fun g => match g[i]? with
  | some s => (match s.cell with
    | some (.ins c fs) => if (cs.contains c && okF fs && decide (n < 5) && decide (fs.length < 1000)) = true then some (.ok .nx (g.set i (s.put (.ins c (putN n d fs))))) else none
    | _ => none)
  | none => none
theorem ss_stF {cs : List Nat} {pm : M D} {pos' : Pos} (i n : Nat) (hC : ∀ c ∈ cs, Cls X.K (ca X.K c) ∧ NoAttr X.K (ca X.K c) (fname n)) (hN : X.N[i]? = some x) (hv : Vis X.env.scope x) (he : SE X W e pm)
    (hd : (x == ("__debug__" : Str)) = false := by decide) (hcd : (x == ("__classdict__" : Str)) = false := by decide) (hs : swapsWith e (some (.Attribute (.Name x p) (fname n) pos')) pos.line X.env = pure false := by rfl) :
    SS X W (.Assign [.Attribute (.Name x p) (fname n) pos'] e pos) (mStF cs i n pm) := PS_imp (ps_fld (pe_var hN hv hd hcd) he hs) fun E σ H q => by
  obtain ⟨F, g, S, q⟩ := q
  refine ⟨F, g, S, Pst_stm Stp.refl q fun d v F1 H1 g1 S1 P1 P01 r1 q1 => ?_⟩
  cases gi : g1[i]? with
  | none => simp only [gi] at q1; exact q1.elim
  | some s =>
    simp only [gi] at q1
    cases sc : s.cell with
    | none => simp only [sc] at q1; exact q1.elim
    | some d0 =>
      simp only [sc] at q1
      cases d0 with
      | ins c fs =>
        by_cases b : (cs.contains c && okF fs && decide (n < 5) && decide (fs.length < 1000)) = true
        · simp only [if_pos b] at q1
          simp only [Bool.and_eq_true, decide_eq_true_eq] at b
          obtain ⟨⟨⟨b1, b2⟩, b3⟩, b4⟩ := b
          obtain ⟨hc1, hc2⟩ := hC c (by simpa using b1)
          have cg : (g1[i]?).bind Sl.cell = some (.ins c fs) := by rw [gi]; exact sc
          obtain ⟨a, ea, k, nn⟩ := S1.cell cg
          obtain ⟨dx, fv, e1, e2, hm, hr⟩ := k
          have hl : fv.length = fs.length := by
            have := congrArg List.length hm
            simpa using this
          have ne : dx ≠ a := fun z => by subst z; rw [e1] at e2; cases e2
          obtain ⟨z1, z2⟩ := put_rep b3 (show Rep X.K F1 v d from r1) b2 hm hr
          refine ⟨_, ea, a, ca X.K c, dx, fv, rfl, e1, hc1, hc2, by omega, ?_⟩
          obtain ⟨S2, P2⟩ := S1.wr (d' := .ins c (putN n d fs)) (o' := .ins (ca X.K c) dx (putF (fname n) v fv)) gi sc ea ⟨dx, _, upd_same, by rw [upd_ne ne]; exact e2, z1, z2⟩ (fun y f => by
            rcases f with f | ⟨C, fv', z⟩
            · exact .inl f
            · rw [upd_same] at z; cases z; exact .inr ⟨_, _, e1⟩) (fun C dx' fv' z => by rw [e1] at z; cases z; exact ⟨_, rfl⟩)
          exact q1 F1 σ _ S2 (P01.trans P2)
        · simp only [if_neg b] at q1; exact q1.elim
      | _ => exact q1.elim
/-! ### an instance ahead of a call -/
def mCls (cs : List Nat) (h : Hd) : M Nat := fun g => match h.ins g with
  | some (c, fs) => if (cs.contains c && okF fs) = true then some (.ok c g) else none
  | none => none
theorem cls_cases {cs : List Nat} {h : Hd} {v : V} (S : Sta X.K F g σ H) (r : HdR X.K F σ h v) : mCls cs h g = none ∨ ∃ c a dx fv fs, mCls cs h g = some (.ok c g) ∧ c ∈ cs ∧ v = .ref a ∧ H a = some (.ins (ca X.K c) dx fv) ∧ okF fs = true ∧ fv.map (·.1) = fs.map (fun p => fname p.1) := by
  unfold mCls
  cases hi : h.ins g with
  | none => exact .inl rfl
  | some cf =>
    obtain ⟨c, fs⟩ := cf
    by_cases b : (cs.contains c && okF fs) = true
    · obtain ⟨a, dx, fv, ev, ea, hm, hr⟩ := ins_at S r hi
      simp only [if_pos b]
      simp only [Bool.and_eq_true] at b
      exact .inr ⟨c, a, dx, fv, fs, rfl, by simpa using b.1, ev, ea, b.2, hm⟩
    · exact .inl (by simp only [if_neg b])
theorem cls_ok {cs : List Nat} {h : Hd} {v : V} {γ δ : Type} {rel2 : Rl γ δ} {Q : δ → Hp → Prop} {k : Nat → M γ} {R : Prop} (S : Sta X.K F g σ H) (r : HdR X.K F σ h v) (q : Pst X.K W σ rel2 F0 H0 g0 Q (((mCls cs h).bind k) g))
    (go : ∀ c a dx fv fs, c ∈ cs → v = .ref a → H a = some (.ins (ca X.K c) dx fv) → okF fs = true → fv.map (·.1) = fs.map (fun p => fname p.1) → Pst X.K W σ rel2 F0 H0 g0 Q (k c g) → R) : R := by
  unfold M.bind at q
  rcases cls_cases (cs := cs) S r with h' | ⟨c, a, dx, fv, fs, h', z1, z2, z3, z4, z5⟩
  · rw [h'] at q; exact q.elim
  · rw [h'] at q; exact go c a dx fv fs z1 z2 z3 z4 z5 q
end
end Cq

set_option Elab.async false
set_option linter.all false
set_option maxRecDepth 100000
namespace Cq
open PySem PySem.Spec PyProof.Rows L2
section
variable {X : Cx} {W : WX} {pos p apos sp_ : Pos} {σ : L2.St} {F H F0 H0 : Hp} {g g0 : Gm} {e o : Expr} {es : List Expr} {ma : M (List Hd)} {mo : M Hd} {x : Str} {u : Value}
/-! ### argument lists as data -/
/-! ### makes -/
theorem mkS_ok {c : Nat} {f : Fn} {vs : List V} {ds : List D} {Q : VK} (S : Sta X.K F g σ H) (P0 : Stp F0 H0 g0 σ F H g σ) (r : Reps X.K F vs ds) (hl : ds.length ≤ 1000000) (q : Pst X.K W σ (relN X.K) F0 H0 g0 Q (mMk c f [.tup ds] g)) :
    spMk (ca X.K c) (spStar 1 (spF X.K [.mu, .im] f)) vs H Q (WE W σ) := by
  intro x dx hx hdx ne
  refine ⟨[.ref x], vs, rfl, rfl, by rw [r.length]; exact line_le hl, fun t ht => ?_⟩
  have tx : t ≠ x := fun z => by subst z; rw [upd_same] at ht; cases ht
  rw [upd_ne tx] at ht
  have td : t ≠ dx := fun z => by subst z; rw [upd_same] at ht; cases ht
  rw [upd_ne td] at ht
  have A := Al.mk1 (o := HO.tup vs) S.sub ht
  obtain ⟨S1, P1⟩ := S.al A
  have := mk_ok (vs := [.ref t]) (ds := [.tup ds]) S1 (P0.trans P1) (.cons (.tup (.inl (.inl upd_same)) (r.mono A.fg)) .nil) q x dx (by rw [upd_ne tx.symm]; exact hx) (by rw [upd_ne td.symm]; exact hdx) ne
  have e : upd (upd (upd H dx (.own x)) x (.ins (ca X.K c) dx [])) t (.tup vs) = upd (upd (upd H t (.tup vs)) dx (.own x)) x (.ins (ca X.K c) dx []) := by
    funext y
    by_cases h1 : y = t
    · subst h1; rw [upd_same, upd_ne tx, upd_ne td, upd_same]
    · rw [upd_ne h1]
      by_cases h2 : y = x
      · subst h2; rw [upd_same, upd_same]
      · rw [upd_ne h2, upd_ne h2]
        by_cases h3 : y = dx
        · subst h3; rw [upd_same, upd_same]
        · rw [upd_ne h3, upd_ne h3, upd_ne h1]
  rw [e]
  exact this
def seqL : D → Option (List D)
  | .tup xs => some xs
  | .lst xs => some xs
  | _ => none
theorem seq_at {K : Frag} {v : V} {d : D} {ds : List D} (s : Sub F H) (r : Rep K F v d) (h : seqL d = some ds) : ∃ a vs, v = .ref a ∧ (SqT K H a vs ∨ SqL K H a vs) ∧ Reps K F vs ds := by
  cases r with
  | tup e r => cases h; exact ⟨_, _, rfl, .inl (s.tup e), r⟩
  | lst e r => cases h; exact ⟨_, _, rfl, .inr (.inl (.inl (s _ _ e))), r⟩
  | _ => cases h
/-- x(*y) by value -/
theorem pe_calRS {sp : Sp} {te : TE} (C : CalR X W u sp) (hg : Gl X x) (hm : X.mg x = some u) (hk : PySem.W.keepIn X.K u = true) (he : PE X e te) (hd : (x == ("__debug__" : Str)) = false := by decide)
    (hst : starEach [.Starred e sp_] X.env = [(true, eval e X.env)] := by rfl) :
    PE X (.Call (.Name x p) [.Starred e sp_] [] pos) (fun σ H Q => te σ H fun y H1 => ∃ a xs, y = V.ref a ∧ (SqT X.K H1 a xs ∨ SqL X.K H1 a xs) ∧ sp xs H1 Q (WE W σ)) := by
  refine ⟨fun pins s σ H Q I h => ?_⟩
  refine wpAny_Call_Name_kw (ld_glob I hg hm ?_ hd)
  refine PySem.W.callWith_S (h₀ := X.base) I.ok.mod.kin hk (thn (he.run pins s σ H _ I h) fun v s1 ⟨y, H1, I1, ry, a, xs, ey, hxs, q⟩ => ?_) hst
  subst ey
  obtain rfl : v = Value.ref a := ry
  exact StX.star_any I1 hxs fun us s2 I2 rv => ⟨I2.kIn, C pins s2 σ H1 us xs Q I2 rv q⟩
/-- x(*y), x a local name that holds the value u -/
theorem pe_calLS {sp : Sp} {te : TE} {i : Nat} (C : CalR X W (.ref (ca X.K i)) sp) (j : Nat) (hN : X.N[j]? = some x) (hv : Vis X.env.scope x) (hk : PySem.W.keepIn X.K (.ref (ca X.K i)) = true) (he : PE X e te) (hd : (x == ("__debug__" : Str)) = false := by decide) (hcd : (x == ("__classdict__" : Str)) = false := by decide)
    (hst : starEach [.Starred e sp_] X.env = [(true, eval e X.env)] := by rfl) :
    PE X (.Call (.Name x p) [.Starred e sp_] [] pos) (fun σ H Q => σ[j]? = some (some (.ref (ca X.K i))) ∧ te σ H fun y H1 => ∃ a xs, y = V.ref a ∧ (SqT X.K H1 a xs ∨ SqL X.K H1 a xs) ∧ sp xs H1 Q (WE W σ)) := by
  refine ⟨fun pins s σ H Q I h => ?_⟩
  obtain ⟨h1, h2⟩ := h
  refine wpAny_Call_Name_kw (thn ((pe_var (X := X) (pos := p) hN hv hd hcd).run pins s σ H (fun v H' => v = .ref (ca X.K i) ∧ H' = H) I ⟨_, h1, rfl, rfl⟩) fun v0 s0 ⟨y0, H0, I0, ry0, ey0, eH0⟩ => ?_)
  subst ey0; subst eH0
  obtain rfl : v0 = Value.ref (ca X.K i) := ry0
  refine PySem.W.callWith_S (h₀ := X.base) I.ok.mod.kin hk (thn (he.run pins s0 σ H0 _ I0 h2) fun v s1 ⟨y, H1, I1, ry, a, xs, ey, hxs, q⟩ => ?_) hst
  subst ey
  obtain rfl : v = Value.ref a := ry
  exact StX.star_any I1 hxs fun us s2 I2 rv => ⟨I2.kIn, C pins s2 σ H1 us xs Q I2 rv q⟩
def mMkS (c : Nat) (f : Fn) (m : M D) : M D := m.bind fun d => match seqL d with
  | some ds => if ds.length ≤ 1000000 then mMk c f [.tup ds] else M.fail
  | none => M.fail
theorem mkS_go {c : Nat} {f : Fn} {d : D} {v : V} {Q : VK} (S : Sta X.K F g σ H) (P0 : Stp F0 H0 g0 σ F H g σ) (r : Rep X.K F v d) (q : Pst X.K W σ (relN X.K) F0 H0 g0 Q ((match seqL d with
  | some ds => if ds.length ≤ 1000000 then mMk c f [.tup ds] else M.fail
  | none => M.fail : M D) g)) : ∃ a xs, v = V.ref a ∧ (SqT X.K H a xs ∨ SqL X.K H a xs) ∧ spMk (ca X.K c) (spStar 1 (spF X.K [.mu, .im] f)) xs H Q (WE W σ) := by
  cases o : seqL d with
  | none => rw [o] at q; exact q.elim
  | some ds =>
    rw [o] at q
    have q : Pst X.K W σ (relN X.K) F0 H0 g0 Q ((if ds.length ≤ 1000000 then mMk c f [.tup ds] else M.fail) g) := q
    by_cases l : ds.length ≤ 1000000
    · rw [if_pos l] at q
      obtain ⟨a, vs, ev, sq, rs⟩ := seq_at S.sub r o
      exact ⟨a, vs, ev, sq, mkS_ok S P0 rs l q⟩
    · rw [if_neg l] at q; exact q.elim
theorem sn_mkS {c : Nat} {f : Fn} {m : M D} (C : CalR X W u (spMk (ca X.K c) (spStar 1 (spF X.K [.mu, .im] f)))) (hg : Gl X x) (hm : X.mg x = some u) (hk : PySem.W.keepIn X.K u = true) (he : SE X W e m) (hd : (x == ("__debug__" : Str)) = false := by decide)
    (hst : starEach [.Starred e sp_] X.env = [(true, eval e X.env)] := by rfl) : SN X W (.Call (.Name x p) [.Starred e sp_] [] pos) (mMkS c f m) :=
  PE_imp (pe_calRS C hg hm hk he hd hst) fun σ H Q q => by
    obtain ⟨F, g, S, q⟩ := q
    exact ⟨F, g, S, Pst_bind Stp.refl q fun d v F1 H1 g1 S1 P1 P01 r1 q1 => mkS_go S1 P01 r1 q1⟩
def mGlo (j c : Nat) : M Unit := fun g => match g[j]? with
  | some (.im (.glo c')) => if c' = c then some (.ok () g) else none
  | _ => none
theorem sn_mkLS {c : Nat} {f : Fn} {m : M D} (C : CalR X W (.ref (ca X.K c)) (spMk (ca X.K c) (spStar 1 (spF X.K [.mu, .im] f)))) (j : Nat) (hN : X.N[j]? = some x) (hv : Vis X.env.scope x) (hk : PySem.W.keepIn X.K (.ref (ca X.K c)) = true) (he : SE X W e m) (hd : (x == ("__debug__" : Str)) = false := by decide) (hcd : (x == ("__classdict__" : Str)) = false := by decide)
    (hst : starEach [.Starred e sp_] X.env = [(true, eval e X.env)] := by rfl) : SN X W (.Call (.Name x p) [.Starred e sp_] [] pos) ((mGlo j c).bind fun _ => mMkS c f m) :=
  PE_imp (pe_calLS C j hN hv hk he hd hcd hst) fun σ H Q q => by
    obtain ⟨F, g, S, q⟩ := q
    unfold M.bind mGlo at q
    cases e : g[j]? with
    | none => simp only [e] at q; exact q.elim
    | some s =>
      simp only [e] at q
      cases s with
      | im d =>
        cases d with
        | glo c' =>
          by_cases h : c' = c
          · simp only [if_pos h] at q
            subst h
            obtain ⟨v, e1, r⟩ := S.slot j _ e
            cases r
            exact ⟨e1, F, g, S, Pst_bind Stp.refl q fun d v F1 H1 g1 S1 P1 P01 r1 q1 => mkS_go S1 P01 r1 q1⟩
          · simp only [if_neg h] at q; exact q.elim
        | _ => exact q.elim
      | _ => exact q.elim
/-! ### properties -/
theorem pe_propC {k : Nat} {te : TE} {f : Str} {sp : Nat → Sp} {cs : List Nat} (he : PE X e te)
    (hp : ∀ c ∈ cs, ∃ pa ga, Cls X.K (ca X.K c) ∧ PropOf X.K (ca X.K c) f pa ga ∧ FnR X.prog X.w X.K X.mg X.base (L2.CX X.prog X.w) k ga (sp c)) (hr : Room (k + 1) X.A)
    (hab : attributeBase e f X.env (eval e X.env) = eval e X.env := by rfl) : PE X (.Attribute e f pos) (fun σ H Q => te σ H fun x H1 => ∃ c a dx fs, c ∈ cs ∧ x = .ref a ∧ H1 a = some (.ins (ca X.K c) dx fs) ∧ sp c [.ref a] H1 Q (fun _ _ _ => False)) := by
  refine ⟨fun pins s σ H Q I h => ?_⟩
  refine attr_of hab (thn (he.run pins s σ H _ I h) fun u s1 ⟨x, H1, I, rx, c, a, dx, fs, hc, ex, ea, h⟩ => ?_)
  subst ex
  obtain rfl : u = Value.ref a := rx
  obtain ⟨pa, ga, cl, hp, F⟩ := hp c hc
  obtain ⟨mA, O, _, _, _, _⟩ := ins_get I.hok ea
  obtain ⟨od, J, _⟩ := O.look
  obtain ⟨rest, hrec⟩ := hp.rec_
  have I1 := I.tok (s1.toks + 1)
  have hcl : (PySem.W.clsIn X.K (ca X.K c)).isSome = true := by
    obtain ⟨cd, hc, _⟩ := PySem.W.any_some cl.hd
    rw [hc]
    rfl
  refine PySem.W.get_bind I.kIn J (PySem.W.plainGet_of (cl.get f)).1 (PySem.W.findObj_data hcl hp.at_ hp.get hp.tak) (PySem.W.plainGet_of (cl.get f)).2 (wpAny_call (PySem.W.prop_get (s := { s1 with toks := s1.toks + 1 }) I.kIn hrec ?_))
  refine codeAny_mono (F X.A.in1 X.stack { s1 with toks := s1.toks + 1 } H1 [.ref a] [.ref a] Q (fun _ _ _ => False) hr.in1 I1.env0.in1 (.cons rfl .nil) h) fun r s' hq => ?_
  cases r with
  | error er => exact (passAt (X := X.nox) (W := W0) takes0 σ pins H1 { s1 with toks := s1.toks + 1 } er s' (I1.wish _) hq).elim
  | ok fl =>
    cases fl with
    | ret u =>
      obtain ⟨v, H', I3, rv, q3⟩ := I1.after hq
      show wpAny _ _ (handedOut u) _ _ _
      rw [PySem.W.handedOut_of (handed_of rv)]
      exact wpAny_pure ⟨v, H', I3, rv, q3⟩
    | next => exact False.elim hq
    | brk => exact False.elim hq
    | cont => exact False.elim hq
def noEx {α : Type} (m : M α) : M α := fun g => match m g with
  | some (.ex _ _) => none
  | o => o
theorem noEx_ok {α β : Type} {rel : Rl α β} {Q : β → Hp → Prop} {m : M α} (q : Pst X.K W σ rel F0 H0 g0 Q (noEx m g)) : Pst X.K W0 σ rel F0 H0 g0 Q (m g) := by
  unfold noEx at q
  cases o : m g with
  | none => rw [o] at q; exact q
  | some r => cases r with
    | ok a g1 => rw [o] at q; exact q
    | ex c g1 => rw [o] at q; exact q.elim
def mProp (cs : List Nat) (md : Md) (f : Nat → Fn) (h : Hd) : M D := (mCls cs h).bind fun c => noEx (mCallF [md] (f c) [h])
theorem se_prop {k : Nat} {n : Str} {cs : List Nat} {md : Md} {f : Nat → Fn} (he : SO X W e mo)
    (hp : ∀ c ∈ cs, ∃ pa ga, Cls X.K (ca X.K c) ∧ PropOf X.K (ca X.K c) n pa ga ∧ FnR X.prog X.w X.K X.mg X.base (L2.CX X.prog X.w) k ga (spF X.K [md] (f c))) (hr : Room (k + 1) X.A)
    (hab : attributeBase e n X.env (eval e X.env) = eval e X.env := by rfl) : SE X W (.Attribute e n pos) (mo.bind (mProp cs md f)) :=
  PE_imp (pe_propC (sp := fun c => spF X.K [md] (f c)) he hp hr hab) fun σ H Q q => by
    obtain ⟨F, g, S, q⟩ := q
    refine ⟨F, g, S, Pst_bind Stp.refl q fun h v F1 H1 g1 S1 P1 P01 r1 q1 => ?_⟩
    refine cls_ok S1 r1 q1 fun c a dx fv fs z1 z2 z3 _ _ q2 => ⟨c, a, dx, fv, z1, z2, z3, ?_⟩
    subst z2
    have := callF_ok (W := W0) (ms := [md]) (f := f c) (hs := [h]) (vs := [.ref a]) S1 P01 (.cons r1 .nil) (noEx_ok q2)
    exact this
/-! ### methods -/
theorem pe_methC {te : TE} {t : TA} {m : Str} {cs : List Nat} {sp : Nat → Sp} {pl : Sem Bool} (he : PE X o te)
    (hp : ∀ c ∈ cs, ∃ fa, Cls X.K (ca X.K c) ∧ Meth X.K (ca X.K c) m fa ∧ CodR X W fa (sp c)) (ha : PA X (e :: es) t)
    (hst : starEach (e :: es) X.env = (false, eval e X.env) :: starEach es X.env := by rfl) (hpl : (backTo pos (starEach es X.env)).any (·.1) = false := by rfl)
    (ht : eval (.Call (.Attribute o m apos) (e :: es) [] pos) X.env = (do
      let ov ← eval o X.env
      standAt apos.atName
      let (f, first) ← holding [ov] (getMethod ov m pl)
      callWith pos f first (backTo pos (starEach (e :: es) X.env)) (backToKw pos (keywordEach [] X.env))) := by rfl) :
    PE X (.Call (.Attribute o m apos) (e :: es) [] pos) (fun σ H Q => te σ H fun x H1 => ∃ c a dx fs, c ∈ cs ∧ x = .ref a ∧ H1 a = some (.ins (ca X.K c) dx fs) ∧ fs.lookup m = none ∧ t σ H1 fun vs H2 => sp c (.ref a :: vs) H2 Q (WE W σ)) := by
  refine ⟨fun pins s σ H Q I h => ?_⟩
  refine PySem.W.methodCall_KW (pl := pl) (thn (he.run pins s σ H _ I h) fun u s1 ⟨x, H1, I1, rx, c, a, dx, fs, hc, ex, ea, l, q⟩ => ?_) ht
  subst ex
  obtain rfl : u = Value.ref a := rx
  obtain ⟨fa, cl, hm, F⟩ := hp c hc
  refine getmeth_ok I1 ea cl hm l ?_
  refine PySem.W.callWith_K (first := [.ref a]) (h₀ := X.base) I.ok.mod.kin hm.kp (thn (ha.run pos pins s1 σ H1 _ I1 q) fun us s2 ⟨vs, H2, I2, r, q2⟩ => ⟨I2.kIn, ?_⟩) hst hpl
  exact wpAny_call (F pins s2 σ H2 (.ref a :: us) (.ref a :: vs) Q I2 (.cons rfl r) q2)
theorem pe_methC0 {te : TE} {m : Str} {cs : List Nat} {sp : Nat → Sp} {pl : Sem Bool} (he : PE X o te)
    (hp : ∀ c ∈ cs, ∃ fa, Cls X.K (ca X.K c) ∧ Meth X.K (ca X.K c) m fa ∧ CodR X W fa (sp c))
    (ht : eval (.Call (.Attribute o m apos) [] [] pos) X.env = (do
      let ov ← eval o X.env
      standAt apos.atName
      let (f, first) ← holding [ov] (getMethod ov m pl)
      callWith pos f first (backTo pos (starEach [] X.env)) (backToKw pos (keywordEach [] X.env))) := by rfl) :
    PE X (.Call (.Attribute o m apos) [] [] pos) (fun σ H Q => te σ H fun x H1 => ∃ c a dx fs, c ∈ cs ∧ x = .ref a ∧ H1 a = some (.ins (ca X.K c) dx fs) ∧ fs.lookup m = none ∧ sp c [.ref a] H1 Q (WE W σ)) := by
  refine ⟨fun pins s σ H Q I h => ?_⟩
  refine PySem.W.methodCall_KW (pl := pl) (thn (he.run pins s σ H _ I h) fun u s1 ⟨x, H1, I1, rx, c, a, dx, fs, hc, ex, ea, l, q⟩ => ?_) ht
  subst ex
  obtain rfl : u = Value.ref a := rx
  obtain ⟨fa, cl, hm, F⟩ := hp c hc
  refine getmeth_ok I1 ea cl hm l ?_
  exact PySem.W.callWith_K0 (first := [.ref a]) I1.kIn hm.kp (wpAny_call (F pins s1 σ H1 [.ref a] [.ref a] Q I1 (.cons rfl .nil) q))
def mMth (cs : List Nat) (ms : List Md) (f : Nat → Fn) (ma : M (List Hd)) (h : Hd) : M D := (mCls cs h).bind fun c => ma.bind fun hs => mCallF ms (f c) (h :: hs)
theorem se_meth {m : Str} {cs : List Nat} {ms : List Md} {f : Nat → Fn} {pl : Sem Bool} (he : SO X W o mo)
    (hp : ∀ c ∈ cs, ∃ fa, Cls X.K (ca X.K c) ∧ Meth X.K (ca X.K c) m fa ∧ CodR X W fa (spF X.K ms (f c))) (ha : SA X W (e :: es) ma) (hm : ∀ i : Nat, i < 5 → (m == fname i) = false)
    (hst : starEach (e :: es) X.env = (false, eval e X.env) :: starEach es X.env := by rfl) (hpl : (backTo pos (starEach es X.env)).any (·.1) = false := by rfl)
    (ht : eval (.Call (.Attribute o m apos) (e :: es) [] pos) X.env = (do
      let ov ← eval o X.env
      standAt apos.atName
      let (f, first) ← holding [ov] (getMethod ov m pl)
      callWith pos f first (backTo pos (starEach (e :: es) X.env)) (backToKw pos (keywordEach [] X.env))) := by rfl) :
    SE X W (.Call (.Attribute o m apos) (e :: es) [] pos) (mo.bind (mMth cs ms f ma)) :=
  PE_imp (pe_methC (sp := fun c => spF X.K ms (f c)) he hp ha hst hpl ht) fun σ H Q q => by
    obtain ⟨F, g, S, q⟩ := q
    refine ⟨F, g, S, Pst_bind Stp.refl q fun h v F1 H1 g1 S1 P1 P01 r1 q1 => ?_⟩
    refine cls_ok S1 r1 q1 fun c a dx fv fs z1 z2 z3 z4 z5 q2 => ⟨c, a, dx, fv, z1, z2, z3, look_none hm z4 z5, F1, g1, S1, Pst_bind P01 q2 fun hs vs F2 H2 g2 S2 P2 P02 r2 q3 => ?_⟩
    subst z2
    exact callF_ok S2 P02 (.cons (HdR.mono P2.fg r1) r2) q3
def mMth0 (cs : List Nat) (ms : List Md) (f : Nat → Fn) (h : Hd) : M D := (mCls cs h).bind fun c => mCallF ms (f c) [h]
theorem se_meth0 {m : Str} {cs : List Nat} {ms : List Md} {f : Nat → Fn} {pl : Sem Bool} (he : SO X W o mo)
    (hp : ∀ c ∈ cs, ∃ fa, Cls X.K (ca X.K c) ∧ Meth X.K (ca X.K c) m fa ∧ CodR X W fa (spF X.K ms (f c))) (hm : ∀ i : Nat, i < 5 → (m == fname i) = false)
    (ht : eval (.Call (.Attribute o m apos) [] [] pos) X.env = (do
      let ov ← eval o X.env
      standAt apos.atName
      let (f, first) ← holding [ov] (getMethod ov m pl)
      callWith pos f first (backTo pos (starEach [] X.env)) (backToKw pos (keywordEach [] X.env))) := by rfl) :
    SE X W (.Call (.Attribute o m apos) [] [] pos) (mo.bind (mMth0 cs ms f)) :=
  PE_imp (pe_methC0 (sp := fun c => spF X.K ms (f c)) he hp ht) fun σ H Q q => by
    obtain ⟨F, g, S, q⟩ := q
    refine ⟨F, g, S, Pst_bind Stp.refl q fun h v F1 H1 g1 S1 P1 P01 r1 q1 => ?_⟩
    refine cls_ok S1 r1 q1 fun c a dx fv fs z1 z2 z3 z4 z5 q2 => ⟨c, a, dx, fv, z1, z2, z3, look_none hm z4 z5, ?_⟩
    subst z2
    exact callF_ok S1 P01 (.cons r1 .nil) q2
/-! ### class methods -/
theorem pe_cmethC {C pa ga : Addr} {mc : Value} {te : TE} {t : TA} {m : Str} {sp : Sp} {pl : Sem Bool} (he : PE X o te) (r : ClX.CRead X.K C mc) (c : ClX.CMet X.K C mc m pa ga) (F : CodR X W ga sp) (ha : PA X (e :: es) t)
    (hst : starEach (e :: es) X.env = (false, eval e X.env) :: starEach es X.env := by rfl) (hpl : (backTo pos (starEach es X.env)).any (·.1) = false := by rfl)
    (ht : eval (.Call (.Attribute o m apos) (e :: es) [] pos) X.env = (do
      let ov ← eval o X.env
      standAt apos.atName
      let (f, first) ← holding [ov] (getMethod ov m pl)
      callWith pos f first (backTo pos (starEach (e :: es) X.env)) (backToKw pos (keywordEach [] X.env))) := by rfl) :
    PE X (.Call (.Attribute o m apos) (e :: es) [] pos) (fun σ H Q => te σ H fun x H1 => x = .ref C ∧ t σ H1 fun vs H2 => sp (.ref C :: vs) H2 Q (WE W σ)) := by
  refine ⟨fun pins s σ H Q I h => ?_⟩
  refine PySem.W.methodCall_KW (pl := pl) (thn (he.run pins s σ H _ I h) fun u s1 ⟨x, H1, I1, rx, ex, q⟩ => ?_) ht
  subst ex
  obtain rfl : u = Value.ref C := rx
  refine ClX.getmethcm_ok I1 r c fun s2 I2 => ?_
  refine ClX.callwith_cm I2 (ClX.base_none I1 (Nat.le_refl _)) c.fi (thn (ha.run pos _ s2 σ H1 _ I2 q) fun us s3 ⟨vs, H2, I3, rv, q2⟩ => ⟨⟨ClX.pin_at I3, I3.kIn⟩, ?_⟩) hst hpl
  have z : wpAny (model X.prog X.w) X.A (call (.ref _) us) (EP X _ σ Q) X.xe s3 := wpAny_call (PySem.W.method_call (ClX.pin_at I3) (F _ s3 σ H2 (.ref C :: us) (.ref C :: vs) Q I3 (.cons rfl rv) q2))
  exact thn z fun _ _ y => ClX.unpinE y
/-- C.m(e, ..), C a class of the module by its name -/
theorem se_cmeth {c : Nat} {pa ga : Addr} {mc : Value} {m : Str} {ms : List Md} {f : Fn} {pl : Sem Bool} {p : Pos} (hg : Gl X x) (hm : X.mg x = some (.ref (ca X.K c))) (r : ClX.CRead X.K (ca X.K c) mc) (cm : ClX.CMet X.K (ca X.K c) mc m pa ga) (F : CodR X W ga (spF X.K ms f)) (ha : SA X W (e :: es) ma) (hd : (x == ("__debug__" : Str)) = false := by decide)
    (hst : starEach (e :: es) X.env = (false, eval e X.env) :: starEach es X.env := by rfl) (hpl : (backTo pos (starEach es X.env)).any (·.1) = false := by rfl)
    (ht : eval (.Call (.Attribute (.Name x p) m apos) (e :: es) [] pos) X.env = (do
      let ov ← eval (.Name x p) X.env
      standAt apos.atName
      let (f, first) ← holding [ov] (getMethod ov m pl)
      callWith pos f first (backTo pos (starEach (e :: es) X.env)) (backToKw pos (keywordEach [] X.env))) := by rfl) :
    SE X W (.Call (.Attribute (.Name x p) m apos) (e :: es) [] pos) (ma.bind fun hs => mCallF ms f (.va (.glo c) :: hs)) :=
  PE_imp (pe_cmethC (pe_glob hg hm (v := .ref (ca X.K c)) rfl hd) r cm F ha hst hpl ht) fun σ H Q q => by
    obtain ⟨F, g, S, q⟩ := q
    refine ⟨rfl, F, g, S, Pst_bind Stp.refl q fun hs vs F1 H1 g1 S1 P1 P01 r1 q1 => ?_⟩
    exact callF_ok S1 P01 (.cons (show HdR X.K F1 σ (.va (.glo c)) (.ref (ca X.K c)) from Rep.glo c) r1) q1
end
end Cq

set_option Elab.async false
set_option linter.all false
set_option maxRecDepth 100000
namespace Cq
open PySem PySem.Spec PyProof.Rows L2
/-! ### a head's facts by tests of one's own -/
abbrev Tst := Frag → Bool
def obsP (fa : List Tst) (fn : List He5.DefA) (K : Frag) : He.AlD := ((fa.all fun f => f K) && fn.all fun d => d.ok K, fn.map fun d => He5.fnA K (d.at_ K))
def SaysP (fa : List Tst) (fn : List He5.DefA) (K : Frag) : Prop := obsP fa fn K = He5.valA fn
section
variable {fa : List Tst} {fn : List He5.DefA} {K : Frag}
theorem SaysP.fact (c : SaysP fa fn K) (i : Nat) {f : Tst} (h : fa[i]? = some f := by rfl) : f K = true :=
  List.all_eq_true.mp (He.ba (congrArg (fun z : He.AlD => z.1) c : ((fa.all fun f => f K) && fn.all fun d => d.ok K) = true)).1 f (List.mem_of_getElem? h)
theorem SaysP.def_ (c : SaysP fa fn K) (i : Nat) {d : He5.DefA} (h : fn[i]? = some d := by rfl) : ∃ fd, FunD K d.name d.qual d.params d.body d.scope (d.dvs K) (d.kws K) (d.at_ K) fd := by
  have c2 := (He.ba (congrArg (fun z : He.AlD => z.1) c : ((fa.all fun f => f K) && fn.all fun d => d.ok K) = true)).2
  have e : fn.map (fun d => He5.fnA K (d.at_ K)) = fn.map He5.DefA.val := congrArg (fun z : He.AlD => z.2) c
  have e2 : (fn.map fun d => He5.fnA K (d.at_ K))[i]? = (fn.map He5.DefA.val)[i]? := by rw [e]
  rw [List.getElem?_map, List.getElem?_map, h] at e2
  exact He5.DefA.funD (Option.some.inj e2) (List.all_eq_true.mp c2 d (List.mem_of_getElem? h))
end
/-! ### the tests -/
def tFa (f : He.Fa) : Tst := fun K => f.ok K
/-- a property: its record, its getter -/
def pga (K : Frag) (C : Addr) (f : Str) : Addr := He5.wf K C "property" f
def tPropOf (c : Nat) (f : Str) : Tst := fun K =>
  He.eqO (PySem.W.findIn K (.ref (ca K c)) f) (some (some (.ref (He.ma K (ca K c) f)))) && (He.eqO (PySem.W.specialIn K (.ref (He.ma K (ca K c) f)) "__get__") (some (some (.builtin "property.__get__"))) &&
    (decide (PySem.W.takesIn K (.ref (He.ma K (ca K c) f)) = some true) && (match PySem.W.recIn K (He.ma K (ca K c) f) "property" with
    | some (.ref _ :: _) => true
    | _ => false)))
theorem propOf_ok {K : Frag} {c : Nat} {f : Str} (h : tPropOf c f K = true) : PropOf K (ca K c) f (He.ma K (ca K c) f) (pga K (ca K c) f) := by
  obtain ⟨h1, h⟩ := He.ba h
  obtain ⟨h2, h⟩ := He.ba h
  obtain ⟨h3, h4⟩ := He.ba h
  refine ⟨He.eqO_ok h1, He.eqO_ok h2, of_decide_eq_true h3, ?_⟩
  unfold pga He5.wf
  cases e : PySem.W.recIn K (He.ma K (ca K c) f) "property" with
  | none => rw [e] at h4; cases h4
  | some l =>
    rw [e] at h4
    cases l with
    | nil => cases h4
    | cons v r => cases v with
      | ref a => exact ⟨r, rfl⟩
      | _ => cases h4
def cma (K : Frag) (C : Addr) (f : Str) : Addr := He5.wf K C "classmethod" f
def tCMet (c : Nat) (m : Str) : Tst := fun K => He5.wrapB K (ca K c) "classmethod" "classmethod.__get__" m && (PySem.W.fnIn K (cma K (ca K c) m) && (PySem.W.readsIn K (ca K c) (.type "type") && He.eqO (PySem.W.specialIn K (.ref (ca K c)) "__getattribute__") (some (some (.builtin "type.__getattribute__")))))
theorem cmet_ok {K : Frag} {c : Nat} {m : Str} (h : tCMet c m K = true) : ClX.CRead K (ca K c) (.type "type") ∧ ClX.CMet K (ca K c) (.type "type") m (He.ma K (ca K c) m) (cma K (ca K c) m) := by
  obtain ⟨h1, h⟩ := He.ba h
  obtain ⟨h2, h⟩ := He.ba h
  obtain ⟨h3, h4⟩ := He.ba h
  exact ⟨⟨h3, He.eqO_ok h4⟩, He5.cmet_of h1 h2⟩
def tInsC (c : Nat) : Tst := fun K => (He.Fa.cls (cname c)).ok K && (He.eqO (PySem.W.findIn K (.ref (ca K c)) "__class__") (some (some (.builtin "object.__class__"))) && (He.eqO (PySem.W.specialIn K (.builtin "object.__class__") "__get__") (some (some (.builtin "getset_descriptor.__get__"))) &&
  (decide (PySem.W.takesIn K (.builtin "object.__class__") = some true) && decide (PySem.W.mroIn K (ca K c) (.type "object") = some true))))
theorem insC_ok {K : Frag} {c : Nat} (h : tInsC c K = true) : InsC K c := by
  obtain ⟨h1, h⟩ := He.ba h
  obtain ⟨h2, h⟩ := He.ba h
  obtain ⟨h3, h⟩ := He.ba h
  obtain ⟨h4, h5⟩ := He.ba h
  exact ⟨He.cls_ok h1, He.eqO_ok h2, He.eqO_ok h3, of_decide_eq_true h4, of_decide_eq_true h5⟩
def tKit (cs : List Nat) (T : Ty) : Tst := fun K =>
  (decide (PySem.W.kitOne K (.type "NoneType") (T.val K) = some false) && (decide (PySem.W.kitOne K (.type "bool") (T.val K) = some (isTy T (.bl true))) && (decide (PySem.W.kitOne K (.type "int") (T.val K) = some (isTy T (.int 0))) &&
    (decide (PySem.W.kitOne K (.type "str") (T.val K) = some (isTy T (.str Str.empty))) && (decide (PySem.W.kitOne K (.type "tuple") (T.val K) = some (isTy T (.tup []))) && (decide (PySem.W.kitOne K (.type "list") (T.val K) = some (isTy T (.lst []))) &&
    (decide (PySem.W.kitOne K (.type "dict") (T.val K) = some (isTy T (.dik []))) && cs.all fun c => tInsC c K && decide (PySem.W.kitOne K (.ref (ca K c)) (T.val K) = some (isTy T (.ins c [])))))))))) 
theorem kit_ok {K : Frag} {cs : List Nat} {T : Ty} (h : tKit cs T K = true) : KitOk K cs T := by
  obtain ⟨h1, h⟩ := He.ba h
  obtain ⟨h2, h⟩ := He.ba h
  obtain ⟨h3, h⟩ := He.ba h
  obtain ⟨h4, h⟩ := He.ba h
  obtain ⟨h5, h⟩ := He.ba h
  obtain ⟨h6, h⟩ := He.ba h
  obtain ⟨h7, h8⟩ := He.ba h
  refine ⟨of_decide_eq_true h1, of_decide_eq_true h2, of_decide_eq_true h3, of_decide_eq_true h4, of_decide_eq_true h5, of_decide_eq_true h6, of_decide_eq_true h7, fun c hc => ?_⟩
  obtain ⟨k1, k2⟩ := He.ba (List.all_eq_true.mp h8 c hc)
  exact ⟨insC_ok k1, of_decide_eq_true k2⟩
def tTup (x : Str) (vs : List He.Dv) : Tst := fun K => He.eqO (PySem.W.nsIn K mainGlobals x) (some (some (.ref (He.ga K x)))) && He.tupB K x vs
end Cq

set_option Elab.async false
set_option linter.all false
set_option maxRecDepth 100000
namespace Cq
open PySem PySem.Spec PyProof.Rows L2
abbrev mVa (m : M D) : M Hd := m.bind fun d => M.ret (.va d)
abbrev mFz (i : Nat) : M D := (mNm i).bind mFrz
section
variable {X : Cx} {W : WX} {pos p : Pos} {x : Str}
theorem se_gint {i : Int} (hg : Gl X x) (h : ∃ t, X.mg x = some (.int i t)) (hd : (x == ("__debug__" : Str)) = false := by decide) : SE X W (.Name x pos) (M.ret (.int i)) := by
  obtain ⟨t, h⟩ := h
  exact se_glob hg h (v := .int i) ⟨t, rfl⟩ (fun _ => .int i) hd
theorem se_gstr {z : Str} (hg : Gl X x) (h : ∃ t, X.mg x = some (.str z t)) (hd : (x == ("__debug__" : Str)) = false := by decide) : SE X W (.Name x pos) (M.ret (.str z)) := by
  obtain ⟨t, h⟩ := h
  exact se_glob hg h (v := .str z) ⟨t, rfl⟩ (fun _ => .str z) hd
theorem reps_dv {K : Frag} {F : Hp} : ∀ xs : List Str, Reps K F ((xs.map He.Dv.str).map (He.Dv.v K)) (xs.map D.str)
  | [] => .nil
  | x :: xs => .cons (.str x) (reps_dv xs)
theorem se_gtup {xs : List Str} (hg : Gl X x) (h : tTup x (xs.map He.Dv.str) X.K = true) (hm : X.mg x = some (.ref (He.ga X.K x))) (hd : (x == ("__debug__" : Str)) = false := by decide) : SE X W (.Name x pos) (M.ret (.tup (xs.map .str))) :=
  se_glob hg hm (v := .ref (He.ga X.K x)) rfl (fun F => .tup (He.tupB_ok (He.ba h).2 F) (reps_dv xs)) hd
theorem te_ty {T : String} (hg : Gl X x) (hm : X.mg x = none) (hv : bootBuiltins x = some (.type T)) (hn : x ≠ "__name__" := by decide) (hd : (x == ("__debug__" : Str)) = false := by decide) : PE X (.Name x pos) (tC (.ty T)) := ⟨fun pins s σ H Q I h => ld_blt I hg hm hv ⟨.ty T, H, I, rfl, h⟩ hn hd⟩
end
theorem _root_.L2.Room.u65 {k : Nat} {A : Around} (r : Room k A) : A.units + 65 < cLine := by have := r.un; omega
section
variable {P : Program} {w : World} {K : Frag} {mg : Str → Option Value} {base : Heap} {x qual : Str} {params : Arguments} {body : List Stmt} {scope : Scope} {f : Addr} {fd : FuncData}
/-- a def with a star parameter -/
theorem fnr_star {k : Nat} {N ps : List Str} {pv : Str} {ms : List Md} {m : M Fl} (F : FunD K x qual params body scope [] [] f fd) (S : FnScope N (ps ++ [pv]) scope) (hl : ms.length = ps.length + 1)
    (hb : ∀ (kV doc pm : Value) (an : Option Addr) (cdv ct : Value) (us rest : List Value), us.length = ps.length → bindArgs (PySem.W.fnOf x qual params body scope .none kV doc pm an cdv ct) ⟨us ++ rest, []⟩ = (newTuple rest >>= fun t => pure (ps.zip us ++ [(pv, t)])))
    (hbody : ∀ (cdv : Value) (A : Around) (outer : List PySem.Env) (s : Shared) (H : Hp) (E : XK), Room k (A.deeper (envOfC qual scope s.heap.objs.size f cdv)) → Takes (cxOf (L2.CX P w) P w K mg base N qual scope f cdv A outer s H E) (wE E) →
      PassesOwn (model P w) (A.deeper (envOfC qual scope s.heap.objs.size f cdv)) (envOfC qual scope s.heap.objs.size f cdv) (cxOf (L2.CX P w) P w K mg base N qual scope f cdv A outer s H E).xe →
      SSs (cxOf (L2.CX P w) P w K mg base N qual scope f cdv A outer s H E) (wE E) body m) :
    FnR P w K mg base (L2.CX P w) (k + 1) f (spStar ps.length (spF K ms (runDef ms N.length m))) := by
  obtain ⟨oc, od, dV, kV, doc, pm, an, cdv, ct, osl, rfl, lk, hcd, hdf, _⟩ := F.ex
  have hdV : dV = .none := by
    rcases hdf with ⟨_, e⟩ | ⟨e, _⟩
    · exact e
    · exact absurd rfl e
  subst hdV
  refine StX.fn_star (ps := ps) (sp := spF K ms (runDef ms N.length m)) lk hcd S StX.cxUp (hb kV doc pm an cdv ct) fun A outer s H vs Q E hr h => ⟨_, hbody cdv A outer s H E hr (takes_of rfl rfl rfl rfl) (passes_of rfl), ?_⟩
  have l : vs.length = ms.length := by obtain ⟨_, _, _, l, _⟩ := h; exact l
  have e : start N vs = vs.map some ++ List.replicate (N.length - ms.length) none := by
    unfold L2.start
    rw [l]
  rw [e]
  exact def_reads (fun _ _ _ z => z) h
end
end Cq

set_option Elab.async false
set_option linter.all false
set_option maxRecDepth 100000
namespace Cq
open PySem PySem.Spec PyProof.Rows L2
section
variable {X : Cx} {W : WX} {pos : Pos} {σ : L2.St} {F H F0 H0 : Hp} {g g0 : Gm}
/-! ### more methods of texts -/
end
end Cq

set_option Elab.async false
set_option linter.all false
set_option maxRecDepth 100000
namespace Cq
open PySem PySem.Spec PyProof.Rows L2
section
variable {X : Cx} {W : WX} {pos p p2 pos' : Pos} {σ : L2.St} {F H F0 H0 : Hp} {g g0 : Gm} {x : Str}
/-! ### raise -/
def mRaise (c : Nat) : M Fl := fun g => some (.ex c g)
theorem ss_raise {m : Str} {j : Nat} {bmB : List Value} {B newId initId : String} (c : Nat) (hc : X.calm = true) (tk : Takes X W) (F : ExcBaseFacts B newId initId bmB) (q : PySem.W.excIn X.K (ca X.K c) bmB newId = true) (gC : X.mg x = some (.ref (ca X.K c))) (kC : PySem.W.keepIn X.K (.ref (ca X.K c)) = true) (r : Raises X (.ref (ca X.K c))) (hg : Gl X x)
    (hdb : (x == ("__debug__" : Str)) = false := by decide) : SS X W (.Raise (some (.Call (.Name x p) [.Constant (.str m) j p2] [] pos)) none pos') (mRaise c) :=
  PS_imp (ps_raise hc tk (pmk_own F q gC kC r hg hdb)) fun E σ H q => by
  obtain ⟨F, g, S, q⟩ := q
  exact q F σ H S Stp.refl
/-! ### try -/
/-- which clause takes which exception -/
def subE : Nat → Nat → Bool := fun c x => c == x || x == 10
def noExS (m : M Fl) : M Fl := fun g => match m g with
  | some (.ex _ _) => none
  | o => o
def mHand (c : Nat) : List (Nat × M Fl) → M Fl
  | [] => fun g => some (.ex c g)
  | (x, m) :: r => if subE c x = true then noExS m else mHand c r
/-- cs: the exceptions that are known -/
def mTry (cs : List Nat) (m : M Fl) (hs : List (Nat × M Fl)) : M Fl := fun g => match m g with
  | some (.ex c g') => if cs.contains c = true then mHand c hs g' else none
  | o => o
theorem noExS_ok {E : Ends} {m : M Fl} (q : PstS X.K W F0 H0 g0 σ E (noExS m g)) : PstS X.K W0 F0 H0 g0 σ E (m g) := by
  unfold noExS at q
  cases o : m g with
  | none => rw [o] at q; exact q
  | some r => cases r with
    | ok f g1 => rw [o] at q; cases f <;> exact q
    | ex c g1 => rw [o] at q; exact q.elim
def tsOf (K : Frag) (hs : List (Nat × M Fl)) : List (Value × (Addr → Value → Option Addr → TS)) := hs.map fun h => (exv K h.1, fun _ _ _ => tS K W0 h.2)
theorem hand_ok {E : Ends} {c : Nat} : ∀ {hs : List (Nat × M Fl)}, (∀ h ∈ hs, PySem.W.exmOne X.K (exv X.K c) (exv X.K h.1) = some (subE c h.1)) → Sta X.K F g σ H → PstS X.K W F H g σ E (mHand c hs g) → wMany X.K W E (tsOf X.K hs) (exv X.K c) none σ H
  | [], _, S, q => q F σ H S Stp.refl
  | (x, m) :: r, hx, S, q => by
    refine ⟨subE c x, hx (x, m) List.mem_cons_self, fun e a _ => ?_, fun e => ?_⟩
    · have q : PstS X.K W F H g σ E ((if subE c x = true then noExS m else mHand c r) g) := q
      rw [if_pos e] at q
      exact ⟨F, g, S, noExS_ok q⟩
    · have q : PstS X.K W F H g σ E ((if subE c x = true then noExS m else mHand c r) g) := q
      rw [if_neg (by rw [e]; decide)] at q
      exact hand_ok (fun h hh => hx h (List.mem_cons_of_mem _ hh)) S q
theorem ss_try {cs : List Nat} {body : List Stmt} {h₀ : ExceptHandler} {hds : List ExceptHandler} {m : M Fl} {hs : List (Nat × M Fl)} (hst : X.stack = X.env :: X.outer) (hf : X.env.frame = some X.env.locals) (tk : Takes X W)
    (hx : ∀ c ∈ cs, ∀ h ∈ hs, PySem.W.exmOne X.K (exv X.K c) (exv X.K h.1) = some (subE c h.1))
    (hb : ∀ (W' : WX) (pn : List (Addr × Obj)) (xe : Value → Shared → Prop), Takes (X.tr pn xe) W' → PassesOwn (model X.prog X.w) X.A X.env xe → SSs (X.tr pn xe) W' body m)
    (hh : HdsOk X (h₀ :: hds) (tsOf X.K hs)) : SS X W (.Try body (h₀ :: hds) [] [] pos) (mTry cs m hs) :=
  PS_imp (ps_try_many (tb := fun W' => tS X.K W' m) (Wout := W) hst hf tk (fun W' pn xe t p => hb W' pn xe t p) hh) fun E σ H q => by
  obtain ⟨F, g, S, q⟩ := q
  refine ⟨F, g, S, ?_⟩
  unfold mTry at q
  cases o : m g with
  | none => rw [o] at q; exact q
  | some r => cases r with
    | ok f g1 => rw [o] at q; cases f <;> exact q
    | ex c g1 =>
      rw [o] at q
      have q : PstS X.K W F H g σ E (if cs.contains c = true then mHand c hs g1 else none) := q
      by_cases hc : cs.contains c = true
      · rw [if_pos hc] at q
        exact fun F' σ' H' S' P' => hand_ok (hx c (by simpa using hc)) S' (PstS_from P' q)
      · rw [if_neg hc] at q; exact q.elim
/-- a clause: except x: suite -/
theorem hd_cons {c : Nat} {b₀ : Stmt} {suite : List Stmt} {np : Pos} {hds : List ExceptHandler} {m : M Fl} {hs : List (Nat × M Fl)} (hg : Gl X x) (hm : X.mg x = some (exv X.K c)) (hd : (x == ("__debug__" : Str)) = false)
    (hsu : ∀ (a : Addr) (pn : List (Addr × Obj)), SSs (X.suite a pn) W0 (b₀ :: suite) m) (r : HdsOk X hds (tsOf X.K hs)) : HdsOk X (.ExceptHandler (some (.Name x np)) none (b₀ :: suite) pos' :: hds) (tsOf X.K ((c, m) :: hs)) :=
  .cons ⟨hg, hd, .inl hm⟩ (fun a oe cls d pn _ _ => hsu a ((a, oe) :: pn)) r
theorem hd_nil : HdsOk X [] (tsOf X.K []) := .nil
/-- raise C("..."), by the head's one fact of C -/
theorem ss_raiseC {m : Str} {j : Nat} (c : Nat) (hc : X.calm = true) (tk : Takes X W) (e : cname c = x) (f : (He.Fa.exc x).ok X.K = true) (gC : X.mg x = some (.ref (He.ga X.K x))) (hg : Gl X x)
    (hdb : (x == ("__debug__" : Str)) = false := by decide) : SS X W (.Raise (some (.Call (.Name x p) [.Constant (.str m) j p2] [] pos)) none pos') (mRaise c) := by
  subst e
  obtain ⟨h1, h2, h3, h4⟩ := He.exc_ok f
  exact ss_raise c hc tk PySem.F.excBase_ValueError h1 gC h2 (raises_own h3 h4) hg hdb
/-- what is known of the clauses: tests -/
def tExm (cs xs : List Nat) : Tst := fun K => cs.all fun c => xs.all fun x => decide (PySem.W.exmOne K (exv K c) (exv K x) = some (subE c x))
theorem exm_of {K : Frag} {cs xs : List Nat} (h : tExm cs xs K = true) : ∀ c ∈ cs, ∀ x ∈ xs, PySem.W.exmOne K (exv K c) (exv K x) = some (subE c x) := fun c hc x hx => of_decide_eq_true (List.all_eq_true.mp (List.all_eq_true.mp h c hc) x hx)
theorem exm_hs {K : Frag} {cs xs : List Nat} {hs : List (Nat × M Fl)} (h : tExm cs xs K = true) (e : hs.map (·.1) = xs) : ∀ c ∈ cs, ∀ y ∈ hs, PySem.W.exmOne K (exv K c) (exv K y.1) = some (subE c y.1) := fun c hc y hy => exm_of h c hc y.1 (e ▸ List.mem_map_of_mem hy)
end
end Cq

set_option Elab.async false
set_option linter.all false
set_option maxRecDepth 100000
namespace Cq
open PySem PySem.Spec PyProof.Rows L2
section
variable {X : Cx} {W : WX} {pos : Pos} {σ : L2.St} {F H F0 H0 : Hp} {g g0 : Gm} {Q : VK} {a b : Expr} {ma mb : M Hd}
/-! ### operators that answer with a new cell -/
/-! ### cuts of lists into a new cell -/
end
end Cq

set_option Elab.async false
set_option linter.all false
set_option maxRecDepth 100000
namespace Cq
open PySem PySem.Spec PyProof.Rows L2
section
variable {X : Cx} {W : WX} {pos p apos : Pos} {σ : L2.St} {F H F0 H0 : Hp} {g g0 : Gm} {a b e o : Expr} {es : List Expr} {ta tb : TE} {ma mb : M Hd} {fa : Addr}
/-! ### operators by an instance's own methods -/
theorem cmpBack_of {pins : List (Addr × Obj)} {Q : VK} {v : Value} {s' : Shared} (h : EP X pins σ Q v s') : PySem.W.CmpBack (EP X pins σ Q) v s' := by
  have h0 := h
  obtain ⟨x, H, I, r, q⟩ := h
  cases x with
  | non => cases r; exact h0
  | bl b => cases r; exact h0
  | int i => obtain ⟨t, rfl⟩ := r; exact h0
  | str i => obtain ⟨t, rfl⟩ := r; exact h0
  | byt i => obtain ⟨t, rfl⟩ := r; exact h0
  | flt i => obtain ⟨t, rfl⟩ := r; exact h0
  | ref a => cases r; exact h0
  | ty n => cases r; exact h0
theorem codB {sp : Sp} (C : CodR X W fa sp) {pins : List (Addr × Obj)} {s : Shared} {us : List Value} {vs : List V} {Q : VK} (I : Inv X pins σ H s) (r : Vals vs us) (q : sp vs H Q (WE W σ)) :
    wpAny (model X.prog X.w) X.A (call (.ref fa) us) (PySem.W.CmpBack (EP X pins σ Q)) X.xe s := by
  refine wpAny_call (codeAny_mono (C pins s σ H us vs Q I r q) fun r s' hq => ?_)
  cases r with
  | error e => exact hq
  | ok fl =>
    cases fl with
    | ret u => exact cmpBack_of hq
    | next => exact hq
    | brk => exact hq
    | cont => exact hq
end
end Cq

set_option Elab.async false
set_option linter.all false
set_option maxRecDepth 100000
namespace Cq
open PySem PySem.Spec PyProof.Rows L2
section
variable {X : Cx} {W : WX} {pos p apos : Pos} {σ : L2.St} {F H F0 H0 : Hp} {g g0 : Gm} {a b e o : Expr} {es : List Expr} {ta tb te : TE} {tA : TA} {ma mb me : M Hd} {fa : Addr} {k : Nat}
/-! ### x[i] and len(x) by an instance's own methods: one level down -/
theorem codB1 {sp : Sp} (C : FnR X.prog X.w X.K X.mg X.base (L2.CX X.prog X.w) k fa sp) (hr : Room (k + 1) X.A) (tk : Takes X W) {pins : List (Addr × Obj)} {s : Shared} {us : List Value} {vs : List V} {Q : VK} (I : Inv X pins σ H s) (r : Vals vs us) (q : sp vs H Q (WE W σ)) :
    wpAny (model X.prog X.w) X.A.in1 (call (.ref fa) us) (EP X pins σ Q) X.xe s := by
  refine wpAny_call (codeAny_mono (C X.A.in1 X.stack s H us vs Q (WE W σ) hr.in1 I.env0.in1 r q) fun r s' hq => ?_)
  cases r with
  | error e => exact passAt tk σ pins H s e s' I hq
  | ok fl =>
    cases fl with
    | ret u => exact I.after hq
    | next => exact False.elim hq
    | brk => exact False.elim hq
    | cont => exact False.elim hq
/-! ### the same as meanings -/
end
end Cq

set_option Elab.async false
set_option linter.all false
set_option maxRecDepth 100000
namespace Cq
open PySem PySem.Spec PyProof.Rows L2
section
variable {X : Cx} {W : WX} {pos : Pos} {σ : L2.St} {F H F0 H0 : Hp} {g g0 : Gm}
/-! ### l.count(x): data of any depth -/
def rCountD (K : PySem.W.Frag) : V → List V → Hp → VK → Prop := fun x xs H Q => ∃ (a : Addr) (y : V) (d : PyData) (ds : List PyData), x = V.ref a ∧ xs = [y] ∧ Dp K H (V.ref a) (.list ds) ∧ Dp K H y d ∧
  SeqAt.shaped (.list ds) = true ∧ SeqAt.shaped d = true ∧ Q (.int (ds.countP fun z => PyData.eqv z d : Nat)) H
theorem mt_countD (hu : X.A.units + 65 < cLine) : MtR X "list.count" (rCountD X.K) := by
  intro pins s σ H x xs v us Q I rx rxs h
  obtain ⟨a, y, d, ds, rfl, rfl, hl, hy, sl, sd, q⟩ := h
  cases rx
  cases rxs with
  | cons ry rt =>
    rename_i uy ut
    cases rt
    obtain ⟨bs, r1⟩ := Dp.reads I d y uy hy ry
    have hxs : PyData.canLayAll0 ds = true := SeqAt.canLay_of_shaped sl
    have hroom : X.A.units + 1 + min (PyData.depthAll ds) d.depth < cLine := room_in_shaped sd hu
    cases hl with
    | lst hs ha =>
      obtain ⟨its, rv, ⟨⟨cls, dd, data, sls⟩, n, ho, hc, hdn, hdt⟩, hlen⟩ := I.list hs
      simp only at hc hdt
      subst hc hdt
      obtain ⟨as, h4⟩ := Dp.readsAll I ds _ its ha rv
      have hmap : its.map (SeqAt.readOf s.heap) = ds := SeqAt.readsAll_map ds its as hxs h4
      refine call_meets PySem.F.slot_list_count ⟨_, ho, rfl⟩ PySem.F.entry_list_count (PySem.F.args_list_count_2 _ _)
        (SeqAt.list_countAt a its.toArray n dd sls uy (fun u => PyData.eqv (SeqAt.readOf s.heap u) d)) ⟨ho, SeqAt.items_eqAt (vs := its.toArray) (show ReadsAll s.heap its.toArray.toList ds as from h4) r1 hxs (SeqAt.canLay_of_shaped sd) hroom, ?_⟩
      have e : its.toArray.toList.countP (fun u => PyData.eqv (SeqAt.readOf s.heap u) d) = ds.countP fun z => PyData.eqv z d := by
        rw [← hmap, List.countP_map]
        rfl
      refine ⟨.int (ds.countP fun z => PyData.eqv z d : Nat), H, I.tok _, ⟨s.toks, ?_⟩, q⟩
      show Value.int ((its.toArray.toList.countP fun u => PyData.eqv (SeqAt.readOf s.heap u) d : Nat) : Int) s.toks = _
      rw [e]
def fCount : D → List D → Option D
  | .lst xs, [e] => match pyL xs, e.py with
    | some ps, some p => if SeqAt.shaped (.list ps) = true ∧ SeqAt.shaped p = true then some (.int (ps.countP fun z => PyData.eqv z p : Nat)) else none
    | _, _ => none
  | _, _ => none
theorem mw_count (hu : X.A.units + 65 < cLine) : MtR X "list.count" (rDm X.K fCount) := by
  refine mtD (mt_countD hu) fun x xs H Q ⟨F, ds, z, s, r, h, q⟩ => ?_
  obtain ⟨d, es, rfl, r0, rs⟩ := rovs_cons r
  cases d with
  | lst a =>
    have h : fCount (.lst a) es = some z := h
    obtain ⟨b, rfl⟩ := one_arg (f := fCount (.lst a)) h rfl fun a b r => by cases a <;> rfl
    obtain ⟨y, rfl, r1⟩ := rovs1 rs
    simp only [fCount] at h
    cases e1 : pyL a with
    | none => rw [e1] at h; cases h
    | some ps => cases e2 : b.py with
      | none => rw [e1, e2] at h; cases h
      | some p =>
        rw [e1, e2] at h
        have h : (if SeqAt.shaped (.list ps) = true ∧ SeqAt.shaped p = true then some (D.int (ps.countP fun z => PyData.eqv z p : Nat)) else none) = some z := h
        by_cases c : SeqAt.shaped (.list ps) = true ∧ SeqAt.shaped p = true
        · rw [if_pos c] at h; cases h
          obtain ⟨q0, vs, rfl, _, _⟩ := r0.lst s
          exact ⟨q0, y, p, ps, rfl, rfl, r0.dp s (by simp only [D.py, e1]; rfl), r1.dp s e2, c.1, c.2, q _ F H (Al.refl s) (.int _)⟩
        · rw [if_neg c] at h; cases h
  | _ => cases h
end
end Cq

set_option Elab.async false
set_option linter.all false
set_option maxRecDepth 100000
namespace Cq
open PySem PySem.Spec PyProof.Rows L2
section
variable {X : Cx} {W : WX} {pos : Pos} {σ : L2.St} {F H F0 H0 : Hp} {g g0 : Gm} {e : Expr} {p q : M D}
def mParN (i j : Nat) (p q : M D) : M Fl := p.bind fun d => q.bind fun e => fun g => if d.flat = true then some (.ok .nx ((g.set i (.ow d)).set j (.im e))) else none
/-- x, y = (a new cell), b -/
theorem ss_parN {i j : Nat} {x y : Str} {a b : Expr} {px py pt : Pos} {kt k2 pt2} (hc : X.calm = true) (hN : X.N.Nodup) (hi : X.N[i]? = some x) (hj : X.N[j]? = some y) (hij : i ≠ j)
    (hx : X.env.scope.names.lookup x = some .local) (hy : X.env.scope.names.lookup y = some .local) (ha : SN X W a p) (hb : SE X W b q)
    (hw : swappedStores [.Tuple [.Name x px, .Name y py] kt pt] (.Tuple [a, b] k2 pt2) X.env = pure (some [x, y]))
    (h1 : starEach [a, b] X.env = (false, eval a X.env) :: starEach [b] X.env := by rfl) (h2 : starEach [b] X.env = (false, eval b X.env) :: starEach [] X.env := by rfl)
    (hs : swapsWithSole [.Tuple [.Name x px, .Name y py] kt pt] (.Tuple [a, b] k2 pt2) pos.line X.env = pure false := by rfl) :
    SS X W (.Assign [.Tuple [.Name x px, .Name y py] kt pt] (.Tuple [a, b] k2 pt2) pos) (mParN i j p q) :=
  PS_imp (ps_par hc hN hi hj hij hx hy (pa_cons ha (pa_cons hb pa_nil h2) h1) hw hs) fun E σ H z => by
  obtain ⟨F, g, S, z⟩ := z
  refine ⟨F, g, S, Pst_stm Stp.refl z fun d v F1 H1 g1 S1 P1 P01 r1 z1 => ⟨F1, g1, S1, Pst_stm P01 z1 fun e w F2 H2 g2 S2 P2 P02 r2 z2 => ?_⟩⟩
  by_cases fl : d.flat = true
  · rw [if_pos fl] at z2
    obtain ⟨a, rfl, c, n⟩ := r1
    have fa : ∀ x, Foot H1 a x → x = a := flat_lst c fun c' fs' z => by rw [z] at fl; cases fl
    obtain ⟨u, hu⟩ := c.at
    obtain ⟨n1, n2, n3⟩ := n a (.inl rfl)
    obtain ⟨k1, k2⟩ := P2.fr' hu (c.dt (.inl rfl) hu).1 (c.nt (.inl rfl) hu) n1 n2
    have c2 : Cell X.K F2 H2 a d := c.same P2.fg fun x o f hx => by rw [fa x f] at hx ⊢; rw [hu] at hx; cases hx; exact k1
    have fa2 : ∀ x, Foot H2 a x → x = a := flat_lst c2 fun c' fs' z => by rw [z] at fl; cases fl
    have no2 : ¬ Own g2 σ H2 a := fun o => by
      rcases P2.own a o with o | o
      · exact n2 o
      · rw [hu] at o; cases o
    obtain ⟨S3, P3⟩ := S2.setOw P02 i c2 (fun x f => by rw [fa2 x f]; exact ⟨k2, no2, n3⟩) S
    obtain ⟨S4, P4⟩ := S3.setIm j r2
    exact ⟨_, _, rfl, z2 F2 _ H2 S4 (P3.trans P4)⟩
  · rw [if_neg fl] at z2; exact z2.elim
end
end Cq

set_option Elab.async false
set_option linter.all false
set_option maxRecDepth 100000
namespace Cq
open PySem PySem.Spec PyProof.Rows L2
section
variable {X : Cx} {W : WX} {pos : Pos} {σ : L2.St} {F H F0 H0 : Hp} {g g0 : Gm} {ke ve : Expr} {mk mv : M D}
def keyD : D → Option Key
  | .int i => some (.inl i)
  | .str x => some (.inr x)
  | _ => none
theorem keyD_rep {K : Frag} {v : V} {d : D} {k : Key} (r : Rep K F v d) (h : keyD d = some k) : v = kV k := by
  cases d with
  | int i => cases h; cases r; rfl
  | str x => cases h; cases r; rfl
  | _ => cases h
end
end Cq

set_option Elab.async false
set_option linter.all false
set_option maxRecDepth 100000
namespace Cq.S
open PySem PySem.W PySem.Calls PyProof.Rows
/-- what the model's tables say of a built-in type T and an operator -/
structure OpT (nm T : String) : Prop where
  look : ∃ o1 o2 : Option Value, typeLookup (.type T) (PySem.dunder nm) = pure o1 ∧ typeLookup (.type T) (dunderR nm) = pure o2
  sub : ∀ (K : Frag) (C : Addr), subIn K (.type T) (.ref C) = some false
section
variable {prog : Program} {w : World} {A : Around} {E : Value → Shared → Prop} {s : Shared} {K : Frag} {x C L f : Addr} {h₀ : Heap} {m : Str → Option Value} {ox : Obj} {od : Option Obj}
theorem fills_T {nm T : String} (h : OpT nm T) : ∃ b, fillsNumberSlot (.type T) nm = pure b := by
  obtain ⟨o1, o2, e1, e2⟩ := h.look
  refine ⟨(o1.isSome && !isSeqSlot o1) || (o2.isSome && !isSeqSlot o2), ?_⟩
  unfold fillsNumberSlot
  simp only [e1, e2]
  rfl
theorem binop1_T {nm : String} {T : String} {b : Value} {Q : Value → Shared → Prop} (F : Fr h₀ L s.heap m) (X₀ : K.In h₀) (I : InstAt s.heap x ox C od) (hb : Looks (model prog w) s.heap (typeOf b) (.type T)) (hT : OpT nm T) (hc : selfFirst K C = true)
    (hs : findIn K (.ref C) (PySem.dunder nm) = some (some (.ref f))) (hf : isFn K (.ref f) = true) (hr : findIn K (.ref C) (dunderR nm) = some none)
    (h : wpAny (model prog w) A (call (.ref f) [.ref x, b]) (PySem.W.CmpBack Q) E s) : wpAny (model prog w) A (binaryOp1 nm (.ref x) b) (fun r s' => ∃ v, r = some v ∧ Q v s') E s := by
  have X := X₀.keeps F.keep
  obtain ⟨cd, hcd, hm⟩ := any_some hc
  obtain ⟨rest, hm⟩ : ∃ rest, cd.mro = .ref C :: rest := by
    cases q : cd.mro with
    | nil => rw [q] at hm; cases hm
    | cons a r => rw [q] at hm; exact ⟨r, by rw [List.head?_cons] at hm; cases (beq_iff_eq.mp hm); rfl⟩
  obtain ⟨bb, eb⟩ := fills_T hT
  obtain ⟨o1, o2, e1, e2⟩ := hT.look
  have fin : wpAny (model prog w) A (tryMethod (.ref x) (PySem.dunder nm) b) (fun r s' => ∃ v, r = some v ∧ Q v s') E s := by
    unfold tryMethod
    refine wpAny_bind (special_fn X I hs (beq_iff_eq.mp hf) (wpAny_mono h (fun v s' hv => ?_) fun _ _ e => e))
    cases v <;> first | exact hv.elim | exact wpAny_pure ⟨_, rfl, hv⟩
  have ne : (Value.ref C == Value.type T) = false := by rfl
  unfold binaryOp1
  refine wpAny_bind (I.type.here (wpAny_bind (hb.here (wpAny_bind ((fills_K X hcd hm hs).here ?_)))))
  simp only [ne, Bool.false_eq_true, if_false]
  rw [eb]
  refine wpAny_bind (wpAny_pure ?_)
  have sub := looks_subIn (M := model prog w) X (hT.sub K C)
  cases bb with
  | false =>
    simp only [Bool.and_false, Bool.false_eq_true, if_false, Bool.false_and]
    refine wpAny_bind (wpAny_pure ?_)
    simp only [Bool.false_eq_true, if_false, if_true]
    refine wpAny_bind (wpAny_mono fin (fun r s' z => ?_) fun _ _ e => e)
    obtain ⟨v, rfl, hv⟩ := z
    exact wpAny_pure ⟨_, rfl, hv⟩
  | true =>
    simp only [Bool.and_true, if_true]
    refine wpAny_bind (sub.here ?_)
    simp only [Bool.false_eq_true, if_false, Bool.not_false, Bool.and_true, if_true]
    have nip : Looks (model prog w) s.heap (numberSlotInPython (.ref C) nm) true := by
      intro A Q E s k q
      unfold numberSlotInPython
      refine wpAny_bind (looks_findIn X hs A _ E s k ?_)
      refine wpAny_bind (wpAny_pure ?_)
      refine wpAny_bind (looks_findIn X hr A _ E s k ?_)
      refine wpAny_bind (wpAny_pure ?_)
      exact wpAny_pure q
    refine wpAny_bind (nip.here ?_)
    simp only [if_true]
    refine wpAny_bind (wpAny_pure ?_)
    simp only [Bool.not_false, if_true]
    rw [e2]
    refine wpAny_bind (wpAny_pure ?_)
    refine wpAny_bind (wpAny_mono fin (fun r s' z => ?_) fun _ _ e => e)
    obtain ⟨v, rfl, hv⟩ := z
    exact wpAny_pure ⟨_, rfl, hv⟩
/-- an instance on the left, a value of a built-in type on the right -/
theorem binop_T {op : Operator} {T : String} {b : Value} {Q : Value → Shared → Prop} (F : Fr h₀ L s.heap m) (X₀ : K.In h₀) (I : InstAt s.heap x ox C od) (hb : Looks (model prog w) s.heap (typeOf b) (.type T)) (hT : OpT op.info.2 T) (hc : selfFirst K C = true)
    (hs : findIn K (.ref C) (PySem.dunder op.info.2) = some (some (.ref f))) (hf : isFn K (.ref f) = true) (hr : findIn K (.ref C) (dunderR op.info.2) = some none)
    (h : wpAny (model prog w) A (call (.ref f) [.ref x, b]) (PySem.W.CmpBack Q) E s) : wpAny (model prog w) A (binaryOp op (.ref x) b) Q E s := by
  unfold binaryOp
  refine wpAny_holding (wpAny_bind (wpAny_mono (binop1_T F X₀ I hb hT hc hs hf hr h) (fun r s' z => ?_) fun _ _ e => e))
  obtain ⟨v, rfl, hv⟩ := z
  exact wpAny_pure hv
end
set_option maxHeartbeats 4000000 in
theorem opT_all : ∀ nm ∈ ["add", "or", "mul"], ∀ T ∈ ["NoneType", "bool", "int", "str", "tuple", "list", "dict"], OpT nm T := by
  intro nm hn T hT
  simp only [List.mem_cons, List.not_mem_nil, or_false] at hn hT
  rcases hn with rfl | rfl | rfl <;> rcases hT with rfl | rfl | rfl | rfl | rfl | rfl | rfl <;> exact ⟨⟨_, _, by rfl, by rfl⟩, fun K C => by rfl⟩
end Cq.S

set_option Elab.async false
set_option linter.all false
set_option maxRecDepth 100000
namespace Cq
open PySem PySem.Spec PyProof.Rows L2
section
variable {X : Cx} {W : WX} {pos p apos : Pos} {σ : L2.St} {F H F0 H0 : Hp} {g g0 : Gm} {a b e o : Expr} {es : List Expr} {ta tb : TE} {ma mb : M Hd} {fa : Addr}
/-! ### operators by an instance's own methods, the other side any value -/
def tynames : List String := ["NoneType", "bool", "int", "str", "tuple", "list", "dict"]
/-- an instance of the class c on the left; on the right one too, or a value of a built-in type -/
def InA (K : Frag) (c : Nat) (x y : V) (H : Hp) : Prop := (∃ a dx fs, x = .ref a ∧ H a = some (.ins (ca K c) dx fs)) ∧ ((∃ b dy gs, y = .ref b ∧ H b = some (.ins (ca K c) dy gs)) ∨ ∃ T ∈ tynames, TyX K H y (.type T))
theorem pe_iopA {op : Operator} {c : Nat} {sp : Sp} (ha : PE X a ta) (hb : PE X b tb) (sf : PySem.W.selfFirst X.K (ca X.K c) = true) (hm : Meth X.K (ca X.K c) (PySem.dunder op.info.2) fa) (hop : op.info.2 ∈ ["add", "or", "mul"])
    (hr : PySem.W.findIn X.K (.ref (ca X.K c)) (PySem.dunderR op.info.2) = some none) (C : CodR X W fa sp) :
    PE X (.BinOp a op b pos) (fun σ H Q => ta σ H fun x H1 => tb σ H1 fun y H2 => InA X.K c x y H2 ∧ sp [x, y] H2 Q (WE W σ)) := by
  refine ⟨fun pins s σ H Q I h => wpAny_BinOp (binT ha hb I h fun v u s2 x y H2 I2 rx ry q => ?_)⟩
  obtain ⟨⟨⟨a, dx, fs, rfl, ha⟩, hy⟩, q⟩ := q
  cases rx
  obtain ⟨mA, J, _⟩ := ins_get I2.hok ha
  obtain ⟨od, J, _⟩ := J.look
  obtain ⟨m, hF⟩ := I2.fr
  rcases hy with ⟨b, dy, gs, rfl, hb⟩ | ⟨T, hT, ty⟩
  · cases ry
    obtain ⟨mB, J', _⟩ := ins_get I2.hok hb
    obtain ⟨od', J', _⟩ := J'.look
    exact PySem.W.binop_K hF I2.ok.mod.kin J J'.type sf hm.at_ hm.fn (codB C I2 (vs := [.ref a, .ref b]) (.cons rfl (.cons rfl .nil)) q)
  · obtain ⟨P, kit, hP, _⟩ := kit_of I2 ry ty
    have X2 := I2.ok.mod.kin.keeps hF.keep
    exact Cq.S.binop_T hF I2.ok.mod.kin J (kit.ty _ _ X2 hP) (Cq.S.opT_all _ hop T hT) sf hm.at_ hm.fn hr (codB C I2 (vs := [.ref a, y]) (.cons rfl (.cons ry .nil)) q)
theorem notFirst_T (K : Frag) (C : Addr) : ∀ T ∈ tynames, PySem.W.notFirst K C (.type T) = true := by
  intro T hT
  have := (Cq.S.opT_all "add" (by decide) T hT).sub K C
  unfold PySem.W.notFirst
  rw [this]
  simp
theorem pe_icmpA {op : CmpOp} {c : Nat} {sp : Sp} (hop : ∀ v u : Value, compareOp op v u = richCompare op v u) (ha : PE X a ta) (hb : PE X b tb) (hu : X.A.units < cLine) (hm : Meth X.K (ca X.K c) (PySem.cmpInfo op).2.1 fa) (C : CodR X W fa sp) (hmk : behindInMarks op b = false) :
    PE X (.Compare a [op] [b] pos) (fun σ H Q => ta σ H fun x H1 => tb σ H1 fun y H2 => InA X.K c x y H2 ∧ sp [x, y] H2 Q (WE W σ)) := by
  refine ⟨fun pins s σ H Q I h => wpAny_Compare1 (binT ha hb I h fun v u s2 x y H2 I2 rx ry q => ?_) hmk⟩
  obtain ⟨⟨⟨a, dx, fs, rfl, ha⟩, hy⟩, q⟩ := q
  cases rx
  rw [hop]
  obtain ⟨mA, J, _⟩ := ins_get I2.hok ha
  obtain ⟨od, J, _⟩ := J.look
  obtain ⟨m, hF⟩ := I2.fr
  rcases hy with ⟨b, dy, gs, rfl, hb⟩ | ⟨T, hT, ty⟩
  · cases ry
    obtain ⟨mB, J', _⟩ := ins_get I2.hok hb
    obtain ⟨od', J', _⟩ := J'.look
    exact PySem.W.cmp_K (tb := .ref (ca X.K c)) hu hF I2.ok.mod.kin J J'.type (by simp [PySem.W.notFirst]) hm.at_ hm.fn (codB C I2 (vs := [.ref a, .ref b]) (.cons rfl (.cons rfl .nil)) q)
  · obtain ⟨P, kit, hP, _⟩ := kit_of I2 ry ty
    have X2 := I2.ok.mod.kin.keeps hF.keep
    exact PySem.W.cmp_K (tb := .type T) hu hF I2.ok.mod.kin J (kit.ty _ _ X2 hP) (notFirst_T _ _ T hT) hm.at_ hm.fn (codB C I2 (vs := [.ref a, y]) (.cons rfl (.cons ry .nil)) q)
def tNoR (c : Nat) (nm : String) : Frag → Bool := fun K => match PySem.W.findIn K (.ref (ca K c)) (PySem.dunderR nm) with
  | some none => true
  | _ => false
theorem noR_ok {K : Frag} {c : Nat} {nm : String} (h : tNoR c nm K = true) : PySem.W.findIn K (.ref (ca K c)) (PySem.dunderR nm) = some none := by
  unfold tNoR at h
  split at h
  · assumption
  · cases h
/-- a datum of a built-in type -/
def tyD : D → Option String
  | .non => some "NoneType"
  | .bl _ => some "bool"
  | .int _ => some "int"
  | .str _ => some "str"
  | .tup _ => some "tuple"
  | .lst _ => some "list"
  | .dik _ => some "dict"
  | .dit _ => some "dict"
  | _ => none
theorem tyD_ok {K : Frag} {v : V} {d : D} {T : String} (s : Sub F H) (r : RoV K F H v d) (h : tyD d = some T) : ∃ T ∈ tynames, TyX K H v (.type T) := by
  have tupT : ∀ {a : Addr} {vs : List V}, SqT K H a vs → TyX K H (.ref a) (.type "tuple") := fun {a vs} h => by
    rcases h with (h | ⟨o, h⟩) | ⟨o, its, n, h1, h2, _⟩
    · exact .base (.tup h)
    · exact .fTuple h
    · exact .kTuple h1 h2
  cases d with
  | non => cases r.non; exact ⟨_, by decide, .base .non⟩
  | bl b => cases r.bl; exact ⟨_, by decide, .base (.bl b)⟩
  | int i => cases r.int; exact ⟨_, by decide, .base (.int i)⟩
  | str x => cases r.str; exact ⟨_, by decide, .base (.str x)⟩
  | tup xs => obtain ⟨p, vs, rfl, k1, k2, _⟩ := r.tup s; exact ⟨"tuple", by decide, tupT k1⟩
  | lst xs => obtain ⟨p, vs, rfl, k1, k2⟩ := r.lst s; exact ⟨"list", by decide, .base (.lst k1)⟩
  | dik xs =>
    have : ∃ a kvs, v = .ref a ∧ H a = some (.dK kvs) := by
      rcases r with r | ⟨a, rfl, ⟨kv, h, _⟩, _⟩
      · cases r with
        | dik h _ _ => exact ⟨_, _, rfl, s _ _ h⟩
      · exact ⟨_, _, rfl, h⟩
    obtain ⟨a, kvs, rfl, e⟩ := this
    exact ⟨"dict", by decide, .base (.dK e)⟩
  | dit xs =>
    have : ∃ a kvs, v = .ref a ∧ H a = some (.dT kvs) := by
      rcases r with r | ⟨a, rfl, ⟨kv, h, _⟩, _⟩
      · cases r with
        | dit h _ _ => exact ⟨_, _, rfl, s _ _ h⟩
      · exact ⟨_, _, rfl, h⟩
    obtain ⟨a, kvs, rfl, e⟩ := this
    exact ⟨"dict", by decide, .base (.dT e)⟩
  | _ => cases h
/-- the right side: an instance of class c, or a value of a built-in type -/
def mRhs (c : Nat) (h : Hd) : M Unit := fun g => match h.ins g with
  | some (c', fs) => if ([c].contains c' && okF fs) = true then some (.ok () g) else none
  | none => match h.rd g with
    | some d => (match tyD d with
      | some _ => some (.ok () g)
      | none => none)
    | none => none
def mIopA (c : Nat) (k : Hd → Hd → M D) (ma mb : M Hd) : M D := ma.bind fun h => mb.bind fun h' => (mCls [c] h).bind fun _ => (mRhs c h').bind fun _ => k h h'
theorem iopA_ok {c : Nat} {P : V → V → Hp → Prop} {rel : Rl D V} {k : Hd → Hd → M D} {Q : VK}
    (hk : ∀ {F H : Hp} {g : Gm} {h h' : Hd} {x y : V}, Sta X.K F g σ H → Stp F0 H0 g0 σ F H g σ → HdsR X.K F σ [h, h'] [x, y] → Pst X.K W σ rel F0 H0 g0 Q (k h h' g) → P x y H)
    (S : Sta X.K F0 g0 σ H0) (q : Pst X.K W σ rel F0 H0 g0 Q (mIopA c k ma mb g0)) :
    tG X.K W (relO X.K) ma σ H0 fun x H1 => tG X.K W (relO X.K) mb σ H1 fun y H2 => InA X.K c x y H2 ∧ P x y H2 := by
  refine ⟨F0, g0, S, Pst_bind Stp.refl q fun h v F1 H1 g1 S1 P1 P01 r1 q1 => ⟨F1, g1, S1, Pst_bind P01 q1 fun h' w F2 H2 g2 S2 P2 P02 r2 q2 => ?_⟩⟩
  have r1' := HdR.mono P2.fg r1
  refine cls_ok S2 r1' q2 fun c1 a dx fv fs z1 z2 z3 z4 z5 q3 => ?_
  cases List.mem_singleton.mp z1
  have left : ∃ a dx fs, v = .ref a ∧ H2 a = some (.ins (ca X.K c) dx fs) := ⟨a, dx, fv, z2, z3⟩
  cases hi : h'.ins g2 with
  | some cf =>
    obtain ⟨c', fs'⟩ := cf
    by_cases cc : ([c].contains c' && okF fs') = true
    · have e : (mRhs c h').bind (fun _ => k h h') g2 = (mCls [c] h').bind (fun _ => k h h') g2 := by
        unfold M.bind mRhs mCls
        simp only [hi, cc, if_true]
      rw [e] at q3
      refine cls_ok S2 r2 q3 fun c2 b dy gv gs y1 y2 y3 y4 y5 q4 => ?_
      cases List.mem_singleton.mp y1
      exact ⟨⟨left, .inl ⟨b, dy, gv, y2, y3⟩⟩, hk S2 P02 (.cons r1' (.cons r2 .nil)) q4⟩
    · have e : (mRhs c h').bind (fun _ => k h h') g2 = none := by
        unfold M.bind mRhs
        simp only [hi, cc, Bool.false_eq_true, if_false]
      rw [e] at q3; exact q3.elim
  | none =>
    cases hd : h'.rd g2 with
    | none =>
      have e : (mRhs c h').bind (fun _ => k h h') g2 = none := by
        unfold M.bind mRhs
        simp only [hi, hd]
      rw [e] at q3; exact q3.elim
    | some d =>
      cases ht : tyD d with
      | none =>
        have e : (mRhs c h').bind (fun _ => k h h') g2 = none := by
          unfold M.bind mRhs
          simp only [hi, hd, ht]
        rw [e] at q3; exact q3.elim
      | some T =>
        have e : (mRhs c h').bind (fun _ => k h h') g2 = k h h' g2 := by
          unfold M.bind mRhs
          simp only [hi, hd, ht]
        rw [e] at q3
        exact ⟨⟨left, .inr (tyD_ok S2.sub (r2.rov S2 hd) ht)⟩, hk S2 P02 (.cons r1' (.cons r2 .nil)) q3⟩
theorem se_iopA {op : Operator} {c : Nat} {ms : List Md} {f : Fn} (ha : SO X W a ma) (hb : SO X W b mb) (sf : PySem.W.selfFirst X.K (ca X.K c) = true) (hm : Meth X.K (ca X.K c) (PySem.dunder op.info.2) fa) (hop : op.info.2 ∈ ["add", "or", "mul"])
    (hr : PySem.W.findIn X.K (.ref (ca X.K c)) (PySem.dunderR op.info.2) = some none) (C : CodR X W fa (spF X.K ms f)) :
    SE X W (.BinOp a op b pos) (mIopA c (fun h h' => mCallF ms f [h, h']) ma mb) :=
  PE_imp (pe_iopA ha hb sf hm hop hr C) fun σ H Q q => by
    obtain ⟨F, g, S, q⟩ := q
    exact iopA_ok (P := fun x y H2 => spF X.K ms f [x, y] H2 Q (WE W σ)) (fun S P r q => callF_ok S P r q) S q
theorem se_icmpA {c : Nat} {ms : List Md} {f : Fn} (ha : SO X W a ma) (hb : SO X W b mb) (hu : X.A.units < cLine) (hm : Meth X.K (ca X.K c) "__eq__" fa) (C : CodR X W fa (spF X.K ms f)) (hmk : behindInMarks .Eq b = false) :
    SE X W (.Compare a [.Eq] [b] pos) (mIopA c (fun h h' => mCallF ms f [h, h']) ma mb) :=
  PE_imp (pe_icmpA (op := .Eq) (fun _ _ => rfl) ha hb hu hm C hmk) fun σ H Q q => by
    obtain ⟨F, g, S, q⟩ := q
    exact iopA_ok (P := fun x y H2 => spF X.K ms f [x, y] H2 Q (WE W σ)) (fun S P r q => callF_ok S P r q) S q
end
end Cq

set_option Elab.async false
set_option linter.all false
set_option maxRecDepth 100000
namespace Cq
open PySem PySem.Spec PyProof.Rows L2
section
variable {X : Cx} {W : WX} {pos p apos : Pos} {σ : L2.St} {F H F0 H0 : Hp} {g g0 : Gm} {e : Expr} {es : List Expr} {mo ma : M Hd} {x : Str}
def maxI : Int → List Int → Int := fun n ns => ns.foldl max n
/-- ints of a list or a tuple -/
def seqI : D → Option (List Int)
  | .lst xs => intsOf xs
  | .tup xs => intsOf xs
  | _ => none
def dMaxDef (d e : D) : Option D := match seqI d, e with
  | some [], .int i => some (.int i)
  | some (n :: ns), .int _ => some (.int (maxI n ns))
  | _, _ => none
theorem alike_is (ns : List Int) : PySem.W.AlikeAll (ns.map PyData.int) := by
  refine ⟨fun x hx y hy => ?_, fun x hx => ?_⟩
  · obtain ⟨i, _, rfl⟩ := List.mem_map.mp hx
    obtain ⟨j, _, rfl⟩ := List.mem_map.mp hy
    rfl
  · obtain ⟨i, _, rfl⟩ := List.mem_map.mp hx
    exact fun z => nomatch z
theorem depth_is : ∀ ns : List Int, PyData.depthAll (ns.map PyData.int) = 0
  | [] => by simp [PyData.depthAll]
  | n :: ns => by simp only [List.map_cons, PyData.depthAll, PyData.depth, depth_is ns]; rfl
theorem rint {h : Heap} {v : Value} {n : Int} {as : List Addr} (r : Reads h v (.int n) as) : ∃ t, v = .int n t := by
  cases r
  exact ⟨_, rfl⟩
theorem seqI_at {v : V} {d : D} {ns : List Int} {pins : List (Addr × Obj)} {s : Shared} (I : Inv X pins σ H s) (sb : Sub F H) (r : RoV X.K F H v d) (h : seqI d = some ns) :
    ∃ a its, v = .ref a ∧ IntsAre its ns ∧ (s.heap.IsList a its.toArray ∨ s.heap.IsTuple a its.toArray) := by
  cases d with
  | lst ds =>
    obtain ⟨a, vs, rfl, k1, k2⟩ := r.lst sb
    rw [intsOf_ok h] at k2
    obtain ⟨its, rv, hl, _⟩ := I.list (.inl (.inl k1))
    have := k2.ints
    subst this
    exact ⟨a, its, rfl, rv.ints, .inl hl.isList⟩
  | tup ds =>
    obtain ⟨a, vs, rfl, k1, k2, _⟩ := r.tup sb
    rw [intsOf_ok h] at k2
    obtain ⟨its, rv, hl, _⟩ := I.tuple k1
    have := k2.ints
    subst this
    exact ⟨a, its, rfl, rv.ints, .inr hl⟩
  | _ => cases h
def rMaxDef (K : Frag) : List V → List V → Hp → VK → Prop := fun xs zs H Q => ∃ F d i z v, Sub F H ∧ xs = [v] ∧ zs = [.int i] ∧ RoV K F H v d ∧ dMaxDef d (.int i) = some z ∧ ∀ v F' H', Al F H F' H' → Rep K F' v z → Q v H'
theorem cr_maxDef (hc : X.calm = true) (hu : X.A.units + 64 < cLine) : CallRK X (.builtin "max") [Str.ofString "default"] (rMaxDef X.K) := by
  intro pins s σ H vs zs us ws Q I r rz h
  obtain ⟨F, d, i, z, v, sb, rfl, rfl, r0, h, q⟩ := h
  obtain ⟨w1, rfl, e1⟩ := vals1 rz
  obtain ⟨t, rfl⟩ := (show ∃ t, w1 = Value.int i t from e1)
  cases o : seqI d with
  | none => simp only [dMaxDef, o] at h; cases h
  | some ns =>
    obtain ⟨a, its, rfl, hi, hl⟩ := seqI_at I sb r0 o
    rw [Vals.ref1 r]
    have hr : ReadsAll s.heap its.toArray.toList (ns.map .int) [] := hi.reads s.heap
    have ha := alike_is ns
    have hd : X.A.units + 1 + PyData.depthAll (ns.map .int) < cLine := by rw [depth_is ns]; omega
    have h0 : ns.map PyData.int = [] → ∀ h' tk, (∀ b o, s.heap.get? b = some o → h'.get? b = some o) → EP X pins σ Q (.int i t) { s with heap := h', toks := tk } := fun e h' tk hk => by
      cases ns with
      | cons n ns => cases e
      | nil =>
        simp only [dMaxDef, o] at h; cases h
        exact ⟨.int _, H, I.kept hk, ⟨_, rfl⟩, q _ F H (Al.refl sb) (.int _)⟩
    have fin : ∀ (y : PyData) (ys : List PyData) (j : Nat) v h' tk bs, ns.map PyData.int = y :: ys → its.toArray[j]? = some v → Reads h' v (PySem.W.maxD y ys) bs → (∀ b o, s.heap.get? b = some o → h'.get? b = some o) → EP X pins σ Q v { s with heap := h', toks := tk } := fun y ys j v h' tk bs e _ rd hk => by
      cases ns with
      | nil => cases e
      | cons n ns =>
        simp only [List.map_cons, List.cons.injEq] at e
        obtain ⟨rfl, rfl⟩ := e
        simp only [dMaxDef, o] at h; cases h
        rw [PySem.W.maxD_ints] at rd
        obtain ⟨t, rfl⟩ := rint rd
        exact ⟨.int _, H, I.kept hk, ⟨_, rfl⟩, q _ F H (Al.refl sb) (.int _)⟩
    rcases hl with hl | hl
    · exact PySem.W.max_list_default (I.ok.hd hc) hl hr ha hd h0 fin
    · exact PySem.W.max_tuple_default (I.ok.hd hc) hl hr ha hd h0 fin
def mMaxDef (ma : M (List Hd)) (md : M D) : M D := ma.bind fun hs => md.bind fun e => fun g => match hs, rdAll g hs, e with
  | [_], some [d], .int i => mAns (dMaxDef d (.int i)) g
  | _, _, _ => none
/-- max(xs, default=e) -/
theorem se_maxDef {a b : Expr} {kp : Pos} {ms : M (List Hd)} {md : M D} (hc : X.calm = true) (hu : X.A.units + 64 < cLine) (hg : Gl X x) (hm : X.mg x = none) (hv : bootBuiltins x = some (.builtin "max")) (ha : SA X W [a] ms) (hb : SE X W b md) (hn : x ≠ "__name__" := by decide) (hdb : (x == ("__debug__" : Str)) = false := by decide)
    (he : backTo pos (starEach (a :: []) X.env) = (false, eval a X.env) :: backTo pos (starEach [] X.env) := by rfl) (hpl : (backTo pos (starEach (a :: []) X.env)).any (·.1) = false := by rfl)
    (hall : (backToKw pos (keywordEach [⟨some (Str.ofString "default"), b, kp⟩] X.env)).all (·.1.isSome) = true := by rfl) (hnone : (backToKw pos (keywordEach [⟨some (Str.ofString "default"), b, kp⟩] X.env)).any (·.1.isNone) = false := by rfl) (hks : (backToKw pos (keywordEach [⟨some (Str.ofString "default"), b, kp⟩] X.env)).filterMap (·.1) = [Str.ofString "default"] := by rfl) :
    SE X W (.Call (.Name x p) [a] [⟨some (Str.ofString "default"), b, kp⟩] pos) (mMaxDef ms md) :=
  PE_imp (pe_callBK (cr_maxDef hc hu) hg hm hv ha (pk_cons hb pk_nil) hn hdb he hpl hall hnone hks) fun σ H Q q => by
    obtain ⟨F, g, S, q⟩ := q
    refine ⟨F, g, S, Pst_bind Stp.refl q fun hs vs F1 H1 g1 S1 P1 P01 r1 q1 => ⟨F1, g1, S1, Pst_bind P01 q1 fun e v F2 H2 g2 S2 P2 P02 r2 q2 => ?_⟩⟩
    cases hs with
    | nil => exact q2.elim
    | cons h hs => cases hs with
      | cons _ _ => exact q2.elim
      | nil =>
        cases r1 with
        | cons ra rn =>
          cases rn
          have ra := ra.mono P2.fg
          cases hd : h.rd g2 with
          | none => simp only [rdAll, hd] at q2; exact q2.elim
          | some d =>
            simp only [rdAll, hd] at q2
            cases e with
            | int i =>
              cases r2
              obtain ⟨z, hz, k⟩ := ans_ok (z := .non) S2 P02 q2
              exact ⟨F2, d, i, z, _, S2.sub, rfl, rfl, ra.rov S2 hd, hz, k⟩
            | _ => exact q2.elim
end
end Cq

set_option Elab.async false
set_option linter.all false
set_option maxRecDepth 100000
namespace L2
open PySem PySem.Spec PyProof.Rows
section
variable {X : Cx} {pins : List (Addr × Obj)} {σ : St} {H : Hp} {s : Shared} {d : Addr} {o : Obj}
theorem Inv.frzT2 {kvs : List (List Key × V)} (I : Inv X pins σ H s) (h : H d = some (.frz o (.dT kvs))) :
    (d == sysModules) = false ∧ ∃ (es : Array DictEntry) (ep : Nat), o.data = .dict es ep ∧ DT.Raw s.heap d es ep ∧ es.size = kvs.length ∧
      ∀ (i : Nat) (k : List Key) (v : V) (lt : i < es.size), kvs[i]? = some (k, v) → ∃ (q : Addr), es[i].key = .ref q ∧ H q = some (.tup (k.map kV)) ∧ RelV v es[i].val := by
  obtain ⟨hd, z, hs, xs, pr, o', es, ep, ho, hx, hdt, he, _⟩ := I.hok d _ h
  rw [hd] at ho
  cases ho
  refine ⟨hs, es, ep, hdt, ⟨o, hd, hx, hdt⟩, ?_, fun i k v lt e => ?_⟩
  · have l1 : es.size = xs.length := size_of_entries he
    have l2 : kvs.length = xs.length := Paired.length pr
    omega
  · obtain ⟨b, hb, e1, e2, e3⟩ := paired_get pr e
    have q := entry_at he i
    rw [hb, Array.getElem?_eq_getElem lt] at q
    have q' : es[i] = entryOfKey (tupleKind (mixKind X.prog X.w)) b := Option.some.inj q
    exact ⟨b.2.1, by rw [q']; rfl, e2, by rw [q']; exact e3⟩
/-- the pairs of a locked dict of tuple keys, each a new tuple -/
def ItiT (d : Addr) (o : Obj) (kvs : List (List Key × V)) : It :=
  ⟨fun i H => H d = some (.frz o (.dT kvs)) ∧ i < kvs.length, fun i H x H' => ∃ T k v q, kvs[i]? = some (k, v) ∧ H q = some (.tup (k.map kV)) ∧ x = .ref T ∧ H T = none ∧ H' = upd H T (.tup [.ref q, v]), fun i H => H d = some (.frz o (.dT kvs)) ∧ kvs.length ≤ i⟩
end
section
variable {P : Program} {w : World} {K : PySem.W.Frag} {d : Addr} {o : Obj} {es : Array DictEntry} {ep : Nat}
theorem turn_itemsT {kvs : List (List Key × V)} {elts : List Expr} {kk : Nat} {tpos : Pos} (it : Addr) (hod : o.data = .dict es ep) :
    Turn P w K (.Tuple elts kk tpos) (ItiT d o kvs) [it] it (fun i h => ∃ ok ov, IsItemIter h it d i kvs.length ep ok ov) where
  mem := by simp
  obj := fun i h st b hb => by
    have e : b = it := by simpa using hb
    subst e
    obtain ⟨ok, ov, e⟩ := st
    exact ⟨_, e, fun v z => nomatch z⟩
  keep := fun i h h' st k => let ⟨ok, ov, e⟩ := st; ⟨ok, ov, k it (by simp) _ e⟩
  item := by
    intro X hP hw hK hc i pins s σ H E I hf st hg
    subst hP hw hK
    obtain ⟨hd, hi⟩ := hg
    obtain ⟨hs, es', ep', hdt, raw, hsz, ent⟩ := I.frzT2 hd
    obtain ⟨rfl, rfl⟩ := dict_ep hod hdt
    obtain ⟨⟨k, v⟩, hkv⟩ : ∃ p, kvs[i]? = some p := ⟨kvs[i], List.getElem?_eq_getElem hi⟩
    have lt : i < es'.size := by rw [hsz]; exact hi
    obtain ⟨q, ek, hq, rv⟩ := ent i k v lt hkv
    obtain ⟨ok, ov, he⟩ := st
    rw [← hsz] at he
    have hlt : it < s.heap.objs.size := Heap.lt_size he
    refine DT.nextI he raw lt fun h' ho hT hz hk => ?_
    refine ⟨_, rfl, wpAny_letOwnedTupleGo_items (s := { s with heap := h' }) ho fun h'' he' sb => ?_⟩
    have hT2 : h''.get? s.heap.objs.size = some { cls := .type "tuple", data := .seq #[es'[i].key, es'[i].val] } := (sb.2 _ (Nat.ne_of_gt hlt)).trans hT
    have new : ObjOk X.prog X.w (upd H s.heap.objs.size (.tup [.ref q, v])) h'' s.heap.objs.size (.tup [.ref q, v]) :=
      ⟨by show 2 ≤ sizeLine; decide, [es'[i].key, es'[i].val], .cons ek (.cons rv .nil), ⟨_, hT2, rfl, _, rfl⟩⟩
    have I1 : Inv X pins σ (upd H s.heap.objs.size (.tup [.ref q, v])) { s with heap := h'' } :=
      I.turnedNew (t' := s.toks) (ch := [it]) (fun b ob hb e => (sb.2 b (by simpa using hb)).trans (hk b ob (by simpa using hb) e)) hf (Nat.le_refl _) new
    refine ⟨.ref s.heap.objs.size, _, I1, rfl, ⟨_, k, v, q, hkv, hq, rfl, I.hok.fresh (Nat.le_refl _), rfl⟩, ⟨es'[i].key, es'[i].val, ?_⟩, fun b hb => ?_⟩
    · rw [← hsz]; exact he'
    · have e : b = it := by simpa using hb
      rw [e, upd_ne (Nat.ne_of_lt hlt)]
      exact (hf it (by simp)).1
  done := by
    intro X hP hw hK hc i pins s σ H E I hf st hg
    subst hP hw hK
    obtain ⟨hd, hi⟩ := hg
    obtain ⟨f0, f1, f2, f3, f4, f5⟩ := hf it (by simp)
    obtain ⟨hs, es', ep', hdt, raw, hsz, ent⟩ := I.frzT2 hd
    obtain ⟨rfl, rfl⟩ := dict_ep hod hdt
    obtain ⟨ok, ov, he⟩ := st
    rw [← hsz] at he
    exact DT.endI (I.ok.hd hc) he raw (by rw [hsz]; exact hi) fun h' eb => ⟨rfl, I.turned (t' := s.toks) (fun b ob hb e => eb b ob hb e) f0 f1 f3 f4 f5⟩
  self := fun A i s Q E st h => let ⟨_, _, e⟩ := st; PySem.W.kcp_self e h
end
def iItemsT (td : TE) : TI := fun σ H R => td σ H fun x H1 => ∃ d o kvs, x = .ref d ∧ H1 d = some (.frz o (.dT kvs)) ∧ R (ItiT d o kvs) H1
section
variable {X : Cx} {tg e : Expr} {td : TE} {apos cpos : Pos}
theorem pi_itemsT {elts : List Expr} {kk : Nat} {tpos : Pos} (he : PE X e td) (hbase : attributeBase e "items" X.env (eval e X.env) = eval e X.env := by rfl) (hline : (apos.endLine == cpos.line) = true := by rfl) :
    PI X (.Tuple elts kk tpos) (.Call (.Attribute e "items" apos) [] [] cpos) (iItemsT td) := by
  refine ⟨fun pins s σ H R I h => ?_⟩
  refine wpAny_Call_method (T := "dict") (id := "dict.items") hbase rfl hline F.plainAttrs_dict F.slot_dict_items F.type_dict_items (thn (he.run pins s σ H _ I h) fun u s1 ⟨x, H1, I1, rx, d, o, kvs, ex, hd, q⟩ => ?_)
  subst ex
  obtain rfl : u = Value.ref d := rx
  obtain ⟨hs, es, ep, hdt, raw, hsz, ent⟩ := I1.frzT2 hd
  refine ⟨raw.typeIs, fun b q => ?_, ?_⟩
  · cases q
    obtain ⟨ob, h1, h2, _⟩ := raw
    exact ⟨ob, h1, h2.2.1⟩
  have I2 : Inv X pins σ H1 { s1 with heap := s1.heap.push { cls := .type "dict_items", data := .fields #[.ref d] } } := I1.kept (t' := s1.toks) fun b ob q => Heap.get?_push_of_some _ q
  have fin : wpAny (model X.prog X.w) X.A (pyIter (.ref s1.heap.objs.size)) (PIE X pins σ (.Tuple elts kk tpos) R) X.xe { s1 with heap := s1.heap.push { cls := .type "dict_items", data := .fields #[.ref d] } } := by
    refine DT.iterI (es := es) (ep := ep) ⟨_, Heap.get?_push_size _ rfl, rfl, rfl⟩ (raw.push _) (pi_one (tk := s1.toks) I2 _ (turn_itemsT _ hdt) ⟨.none, .none, ?_⟩ q)
    rw [← hsz]
    exact Heap.get?_push_size _ rfl
  show wpAny _ _ (callWith cpos (.builtin "dict.items") [.ref d] [] []) _ X.xe s1
  exact method_meetsIn F.slot_dict_items F.entry_dict_items rfl (PySem.evalArgs_none ⟨rfl, raw.typeIs, F.args_dict_items_1 _, _, DT.meetsItems (es := es) (ep := ep) hs, raw, fin⟩)
end
/-! ### dict(a list of pairs), the keys tuples -/
def mergedH (acc more : List (List Key × Addr × Value)) : List (List Key × Addr × Value) := more.foldl (fun acc x => storedH acc x.1 x.2.1 x.2.2) acc
def mergeT (kvs more : List (List Key × V)) : List (List Key × V) := more.foldl (fun acc kv => putK acc kv.1 kv.2) kvs
theorem length_mergeT : ∀ (more kvs : List (List Key × V)), (mergeT kvs more).length ≤ kvs.length + more.length
  | [], kvs => by show kvs.length ≤ kvs.length + 0; omega
  | p :: r, kvs => by
    have h1 := length_mergeT r (putK kvs p.1 p.2)
    have h2 := length_putK kvs p.1 p.2
    show (mergeT (putK kvs p.1 p.2) r).length ≤ _
    rw [List.length_cons]; omega
theorem KT.merge {H : Hp} : ∀ {more : List (List Key × V)} {rs : List (List Key × Addr × Value)} {kvs : List (List Key × V)} {xs : List (List Key × Addr × Value)}, KT H more rs → KT H kvs xs → KT H (mergeT kvs more) (mergedH xs rs) := by
  intro more rs kvs xs r
  induction r generalizing kvs xs with
  | nil => intro q; exact q
  | @cons p q ps qs h t ih =>
    intro r0
    have e : KT H (putK kvs p.1 p.2) (storedH xs q.1 q.2.1 q.2.2) := by
      have := r0.put p.1 (b := q.2.1) h.2.1 h.2.2
      rw [← h.1]; exact this
    exact ih e
theorem storedH_le (xs : List (List Key × Addr × Value)) (k : List Key) (a : Addr) (v : Value) : (storedH xs k a v).length ≤ xs.length + 1 := by
  unfold storedH
  split
  · rw [List.length_map]; omega
  · rw [List.length_append]; simp
section
variable {prog : Program} {w : World} {A : Around} {E : Value → Shared → Prop}
abbrev tK (prog : Program) (w : World) : HeapKind prog w (List Key) := tupleKind (mixKind prog w)
theorem isT_ext {h h' : Heap} {S I b : Addr} {k : List Key} (x : (tK prog w).is h k b) (hb : b ≠ I) (e : ∀ b o, b ≠ I → h.get? b = some o → h'.get? b = some o) : (tK prog w).is h' k b := by
  obtain ⟨o, items, n, h1, h2, h3, h4⟩ := (show IsTupleKey (mixKind prog w) h k b from x)
  exact (show IsTupleKey (mixKind prog w) h' k b from ⟨o, items, n, e b o hb h1, h2, h3, h4⟩)
theorem DictOfH.ext {h h' : Heap} {S I : Addr} {xs : List (List Key × Addr × Value)} (hm : h.DictOfH (tK prog w) S xs) (hSI : S ≠ I) (hI : ∀ x ∈ xs, x.2.1 ≠ I) (k : ∀ b o, b ≠ I → h.get? b = some o → h'.get? b = some o) : h'.DictOfH (tK prog w) S xs := by
  obtain ⟨o, es, ep, ho, h1, h2, h3, h4, h5⟩ := hm
  exact ⟨o, es, ep, k S o hSI ho, h1, h2, h3, fun x hx => isT_ext (S := S) (h4 x hx) (hI x hx) k, h5⟩
theorem mem_storedH {xs : List (List Key × Addr × Value)} {k : List Key} {a : Addr} {v : Value} {x : List Key × Addr × Value} (h : x ∈ storedH xs k a v) : x.2.1 = a ∨ ∃ y ∈ xs, x.2.1 = y.2.1 := by
  unfold storedH at h
  split at h
  · obtain ⟨y, hy, e⟩ := List.mem_map.mp h
    refine .inr ⟨y, hy, ?_⟩
    rw [← e]; unfold putAt; split <;> rfl
  · rcases List.mem_append.mp h with h | h
    · exact .inr ⟨x, h, rfl⟩
    · have : x = (k, a, v) := by simpa using h
      rw [this]; exact .inl rfl
theorem upd_loopT {R : Result → Shared → Prop} {S I l : Addr} {items : Array Value} {res : Value} (hu : A.units + 2 < cLine) (hh : A.handled = none) (hlI : l ≠ I) (hSI : S ≠ I) (hSl : S ≠ l) :
    ∀ (rest : List (List Key × Addr × Value)) (i : Nat) (acc : List (List Key × Addr × Value)) (ix : Int) (t : Tok) (s : Shared), items.size = i + rest.length → acc.length + rest.length ≤ sizeLine →
      (∀ (j : Nat) (q : List Key × Addr × Value), rest[j]? = some q → ∃ (b : Addr), items[i + j]? = some (.ref b) ∧ b ≠ S ∧ b ≠ I ∧ IsTup s.heap b #[.ref q.2.1, q.2.2] ∧ q.2.1 ≠ S ∧ q.2.1 ≠ I ∧ (tK prog w).is s.heap q.1 q.2.1) →
      (∀ x ∈ acc, x.2.1 ≠ I) →
      s.heap.IsListIter I l i → s.heap.IsList l items → s.heap.DictOfH (tK prog w) S acc →
      (∀ h' tk, h'.DictOfH (tK prog w) S (mergedH acc rest) → (∀ b o, b ≠ S → b ≠ I → s.heap.get? b = some o → h'.get? b = some o) → R (.ok (.ret res)) { s with heap := h', toks := tk }) →
      codeAny (model prog w) A (.builtin "dict.update.loop" ⟨[.ref S, .ref I, .int ix t, res], []⟩) R s
  | [], i, acc, ix, t, s, hsz, hln, ht, ha, hit, hl, hm, hR => by
    refine codeAny_builtin ud_entry ?_
    rw [Around.under_plainId ud_plain _]
    show wpAny _ A.in1 (pyNext (.ref I) >>= _) _ _ s
    refine wpAny_bind (wpAny_pyNext_list_end (A := A.in1) hh hit hl (by first | exact Array.getElem?_eq_none (Nat.le_of_eq hsz) | (simp at hsz; simp; omega)) fun h' he => ?_)
    show wpAny _ A.in1 (Builtin.Dict.addKeywords S [] >>= _) _ _ _
    refine wpAny_bind (wpAny_pure (wpAny_pure ?_))
    exact hR h' s.toks (DictOfH.ext hm hSI ha fun b o hb e => he b o hb e) fun b o _ hb e => he b o hb e
  | q :: rest, i, acc, ix, t, s, hsz, hln, ht, ha, hit, hl, hm, hR => by
    obtain ⟨b, hb, hbS, hbI, htup, hqS, hqI, hk⟩ := ht 0 q rfl
    rw [List.length_cons] at hsz hln
    refine codeAny_builtin ud_entry ?_
    rw [Around.under_plainId ud_plain _]
    show wpAny _ A.in1 (pyNext (.ref I) >>= _) _ _ s
    refine wpAny_bind (wpAny_pyNext_list_item (x := .ref b) hit hl (by simpa using hb) fun h1 hit1 hs1 => ?_)
    have ht1 : IsTup h1 b #[.ref q.2.1, q.2.2] := htup.extBut hs1.extBut hbI
    have hl1 : h1.IsList l items := hl.extBut hs1.extBut hlI
    have hm1 : h1.DictOfH (tK prog w) S acc := DictOfH.ext hm hSI ha hs1.extBut
    have hk1 : (tK prog w).is h1 q.1 q.2.1 := isT_ext (S := S) hk hqI hs1.extBut
    obtain ⟨o, ho, hc, n, hd⟩ := id ht1
    show wpAny _ A.in1 (holding [Value.ref b] _ >>= _) _ _ _
    refine wpAny_bind (wpAny_holding ?_)
    refine wpAny_bind (wpAny_tryCatch ?_)
    unfold Builtin.Dict.pairItems
    refine wpAny_bind (wpAny_typeOf (T := "tuple") ⟨o, ho, hc⟩ ?_)
    rw [if_pos (by first | decide | rfl | simp)]
    refine wpAny_bind (wpAny_seqItems ho hd (wpAny_pure ?_))
    show wpAny _ A.in1 (holding [.ref q.2.1, q.2.2] (dictSet S (.ref q.2.1) q.2.2)) _ _ _
    refine wpAny_holding (wpAny_dictSet_heap (knd := tK prog w) (k := q.1) ?_ hk1 hm1 (fun h2 hm2 hs2 => ?_) (by omega))
    · exact tupleKind_room_in1 (by omega)
    refine wpAny_pure ⟨plainId_quiet ud_plain _, upd_loopT (items := items) hu hh hlI hSI hSl rest (i + 1) (storedH acc q.1 q.2.1 q.2.2) (ix + 1) 0 _ (show items.size = i + 1 + rest.length by omega) ?_ (fun j q' e => ?_) (fun x hx => ?_) ?_ ?_ hm2 fun h' tk hd' k => ?_⟩
    · have z := storedH_le acc q.1 q.2.1 q.2.2
      omega
    · obtain ⟨b', hb', hbS', hbI', htup', hqS', hqI', hk'⟩ := ht (j + 1) q' (by simpa using e)
      refine ⟨b', ?_, hbS', hbI', (htup'.extBut hs1.extBut hbI').extBut hs2.extBut hbS', hqS', hqI', isT_ext (S := S) (isT_ext (S := S) hk' hqI' hs1.extBut) hqS' hs2.extBut⟩
      rw [show i + 1 + j = i + (j + 1) by omega]
      exact hb'
    · rcases mem_storedH hx with e | ⟨y, hy, e⟩
      · rw [e]; exact hqI
      · rw [e]; exact ha y hy
    · exact hit1.at fun o' e => hs2.extBut I o' (Ne.symm hSI) e
    · exact hl1.extBut hs2.extBut (Ne.symm hSl)
    · exact hR h' tk hd' fun c oc h3 h4 e => k c oc h3 h4 (hs2.extBut c oc h3 (hs1.extBut c oc h4 e))

/-- dict(l) of a list of pairs -/
theorem call_dict_pairsT {s : Shared} {l : Addr} {ol : Obj} {items : Array Value} {n : Nat} {prs : List (List Key × Addr × Value)} {Q : Value → Shared → Prop} (hu : A.units + 4 < cLine) (hh : A.handled = none) (hl : s.heap.get? l = some ol) (hc : ol.cls = .type "list") (hd : ol.dict = none)
    (hdat : ol.data = .seq items n) (hsz : items.size = prs.length) (hln : prs.length ≤ sizeLine)
    (ht : ∀ (j : Nat) (q : List Key × Addr × Value), prs[j]? = some q → ∃ (b : Addr), items[j]? = some (.ref b) ∧ IsTup s.heap b #[.ref q.2.1, q.2.2] ∧ (tK prog w).is s.heap q.1 q.2.1)
    (h : ∀ h' tk, h'.DictOfH (tK prog w) s.heap.objs.size (mergedH [] prs) → (∀ b o, s.heap.get? b = some o → h'.get? b = some o) → Q (.ref s.heap.objs.size) { s with heap := h', toks := tk }) :
    wpAny (model prog w) A (call (.type "dict") [.ref l]) Q E s := by
  refine callType_codes (Q₁ := fun obj s₁ => obj = .ref s.heap.objs.size ∧ s₁ = { s with heap := s.heap.push { cls := .type "dict", data := .dict #[] } }) PySem.F.kt_called_dict (PySem.F.kt_typeCall_dict_1 _) PySem.F.entry_dict_init (kt_code_dict_new _ ⟨rfl, rfl⟩) ?_
  rintro obj s₁ ⟨rfl, rfl⟩
  have hnew : (s.heap.push { cls := .type "dict", data := .dict #[] }).DictOfH (tK prog w) s.heap.objs.size [] := Heap.DictOfH.new s.heap
  have k0 : ∀ b o, s.heap.get? b = some o → (s.heap.push { cls := .type "dict", data := .dict #[] }).get? b = some o := fun b o e => Heap.get?_push_of_some _ e
  refine ⟨hnew.typeIs, PySem.F.args_dict_init_2 _ _, ?_⟩
  unfold Builtin.«dict.__init__»
  refine wpAny_bind ?_
  unfold Builtin.Dict.selfAndRest
  refine wpAny_bind (wpAny_notOrdered_dict hnew.typeIs ?_)
  show wpAny _ _ (pure (s.heap.objs.size, [Value.ref l])) _ _ _
  refine wpAny_pure ?_
  show wpAny _ _ (Builtin.Dict.updateFrom "dict.__init__" s.heap.objs.size (.ref l) [] .none) _ _ _
  unfold Builtin.Dict.updateFrom
  refine wpAny_bind (wpAny_typeOf (T := "list") ⟨ol, k0 _ _ hl, hc⟩ ?_)
  rw [if_pos (by first | decide | rfl | simp)]
  refine wpAny_bind (miss_list (k0 _ _ hl) hc hdat hd hh fun h1 tk1 hk1 => ?_)
  rw [if_pos (show (none : Option Value).isNone = true from rfl)]
  refine wpAny_bind (wpAny_rule ?_)
  have hl1 : h1.IsList l items := ⟨ol, hk1 _ _ (k0 _ _ hl), hc, n, hdat⟩
  have hS1 : s.heap.objs.size < h1.objs.size := by
    have e : (s.heap.push { cls := .type "dict", data := .dict #[] }).get? s.heap.objs.size = some { cls := .type "dict", data := .dict #[] } := Heap.get?_push_size _ rfl
    exact Heap.lt_size (hk1 _ _ e)
  refine wpAny_bind (wpAny_pyIter_list hl1 ?_)
  have k2 : ∀ b o, h1.get? b = some o → (h1.push { cls := .type "list_iterator", data := .fields #[.ref l, .int 0 0] }).get? b = some o := fun b o e => Heap.get?_push_of_some _ e
  have hlt : l < s.heap.objs.size := Heap.lt_size hl
  have hsame : ∀ b o, b ≠ h1.objs.size + 1 → s.heap.get? b = some o → (h1.push { cls := .type "list_iterator", data := .fields #[.ref l, .int 0 0] }).get? b = some o := fun b o _ e => k2 _ _ (hk1 _ _ (k0 _ _ e))
  have key := upd_loopT (prog := prog) (w := w) (A := A.in1) (R := wants (fun r s₂ => r = .none ∧ Q (.ref s.heap.objs.size) s₂) E) (S := s.heap.objs.size) (I := h1.objs.size) (l := l) (items := items) (res := Value.none) (show A.units + 1 + 2 < cLine by omega) hh
    (Nat.ne_of_lt (Nat.lt_trans hlt hS1)) (Nat.ne_of_lt hS1) (Nat.ne_of_gt hlt) prs 0 [] 0 0
    { s with heap := h1.push { cls := .type "list_iterator", data := .fields #[.ref l, .int 0 0] }, toks := tk1 } (by rw [hsz, Nat.zero_add]) (by rw [List.length_nil, Nat.zero_add]; exact hln)
    (fun j q e => by
      obtain ⟨b, e1, e2, e3⟩ := ht j q e
      have hb : b < s.heap.objs.size := e2.lt
      have hq : q.2.1 < s.heap.objs.size := by
        obtain ⟨o, _, _, z, _⟩ := (show IsTupleKey (mixKind prog w) s.heap q.1 q.2.1 from e3)
        exact Heap.lt_size z
      exact ⟨b, by rw [Nat.zero_add]; exact e1, Nat.ne_of_lt hb, Nat.ne_of_lt (Nat.lt_trans hb hS1), e2.keeps fun c o z => k2 _ _ (hk1 _ _ (k0 _ _ z)), Nat.ne_of_lt hq, Nat.ne_of_lt (Nat.lt_trans hq hS1),
        isT_ext (S := l) (I := h1.objs.size + 1) e3 (Nat.ne_of_lt (Nat.lt_succ_of_lt (Nat.lt_trans hq hS1))) hsame⟩)
    (fun x hx => nomatch hx)
    ⟨_, Heap.get?_push_size _ rfl, rfl, rfl⟩ (hl1.at fun o e => k2 _ _ e) (DictOfH.ext (I := h1.objs.size + 1) hnew (Nat.ne_of_lt (Nat.lt_succ_of_lt hS1)) (fun x hx => nomatch hx) fun b o _ e => k2 _ _ (hk1 _ _ e))
    (fun h' tk hd' k => ⟨rfl, h h' tk hd' fun b o e => k b o (Nat.ne_of_lt (Heap.lt_size e)) (Nat.ne_of_lt (Nat.lt_trans (Heap.lt_size e) hS1)) (k2 _ _ (hk1 _ _ (k0 _ _ e)))⟩)
  first
    | exact wpAny_pure ⟨plainId_quiet ud_plain _, key⟩
    | exact wpAny_bind (wpAny_pure (wpAny_pure ⟨plainId_quiet ud_plain _, key⟩))
end
section
variable {X : Cx}
theorem pairs_ofT {pins : List (Addr × Obj)} {σ : St} {H : Hp} {s : Shared} (I : Inv X pins σ H s) : ∀ {ps : List Addr} {kvs : List (List Key × V)}, Paired (fun p kv => ∃ b, SqT X.K H p [.ref b, kv.2] ∧ H b = some (.tup (kv.1.map kV))) ps kvs →
    ∃ prs : List (List Key × Addr × Value), KT H kvs prs ∧ prs.length = ps.length ∧ ∀ (j : Nat) (q : List Key × Addr × Value), prs[j]? = some q → ∃ (b : Addr), ps[j]? = some b ∧ IsTup s.heap b #[.ref q.2.1, q.2.2] ∧ (tK X.prog X.w).is s.heap q.1 q.2.1
  | _, _, .nil => ⟨[], .nil, rfl, fun j q e => by simp at e⟩
  | _, _, .cons (a := p) (b := kv) h t => by
    obtain ⟨prs, r, hl, hp⟩ := pairs_ofT I t
    obtain ⟨b, hs, hb⟩ := h
    obtain ⟨its, rv, ht, _⟩ := I.tuple hs
    obtain ⟨u, y, ei, ru, ry⟩ := vals2 rv
    subst ei
    cases (show u = Value.ref b from ru)
    refine ⟨(kv.1, b, y) :: prs, .cons ⟨rfl, hb, ry⟩ r, by rw [List.length_cons, List.length_cons, hl], fun j q e => ?_⟩
    cases j with
    | zero =>
      have e' : (kv.1, b, y) = q := Option.some.inj e
      subst e'
      exact ⟨p, rfl, ht, key_of I.hok hb⟩
    | succ j =>
      obtain ⟨b', e1, e2, e3⟩ := hp j q (by simpa using e)
      exact ⟨b', by simpa using e1, e2, e3⟩
/-- dict(xs) of a list of pairs (key, value), the keys tuples -/
theorem call_dictT (hcalm : X.calm = true) (hu : X.A.units + 4 < cLine) : CallR X (.type "dict") (fun xs H Q => ∃ (a : Addr) (ps : List Addr) (kvs : List (List Key × V)), xs = [.ref a] ∧ SqL X.K H a (ps.map V.ref) ∧ Paired (fun p kv => ∃ b, SqT X.K H p [.ref b, kv.2] ∧ H b = some (.tup (kv.1.map kV))) ps kvs ∧
    ∀ p, H p = none → Q (.ref p) (upd H p (.dT (mergeT [] kvs)))) := by
  intro pins s σ H xs us Q I r q
  obtain ⟨a, ps, kvs, ex, hq, hp, q⟩ := q
  subst ex
  obtain ⟨u, eu, rx⟩ := vals1 r
  subst eu
  cases rx
  obtain ⟨its, rv, pl, hz⟩ := I.list hq
  have ei := refs_at rv
  subst ei
  rw [List.length_map] at hz
  obtain ⟨prs, rel, hl, hpr⟩ := pairs_ofT I hp
  obtain ⟨o, n, ho, hc, hd, hdat⟩ := pl
  refine call_dict_pairsT (prs := prs) hu (I.ok.hd hcalm) ho hc hd hdat (by simp [hl]) (by rw [hl]; exact hz) (fun j q' e => ?_) fun h' tk hd' k => ?_
  · obtain ⟨b, e1, e2, e3⟩ := hpr j q' e
    exact ⟨b, by simp [e1], e2, e3⟩
  · have hm : (s.heap.objs.size == sysModules) = false := beq_eq_false_iff_ne.mpr (Nat.ne_of_gt I.big)
    have hlen : (mergeT [] kvs).length ≤ sizeLine := by
      refine Nat.le_trans (length_mergeT kvs []) ?_
      rw [List.length_nil, Nat.zero_add, Paired.length rel, hl]
      exact hz
    have hn : H s.heap.objs.size = none := I.hok.fresh (Nat.le_refl _)
    obtain ⟨o', es, ep, g1, g2, g3, g4, g5, g6⟩ := hd'
    refine ⟨.ref s.heap.objs.size, upd H s.heap.objs.size (.dT (mergeT [] kvs)), I.laid (t' := tk) k (Nat.le_refl _) (show ObjOk X.prog X.w _ _ _ (.dT (mergeT [] kvs)) from ⟨hlen, hm, mergedH [] prs, (KT.merge rel .nil).keeps fun c ys ec => ?_, o', es, ep, g1, g2, g3, g4, g6⟩), rfl, q _ hn⟩
    rw [upd_ne (ne_of_none ec hn)]
    exact ec
end
end L2

set_option Elab.async false
set_option linter.all false
set_option maxRecDepth 100000
namespace Cq
open PySem PySem.Spec PyProof.Rows L2
section
variable {X : Cx} {W : WX} {pos : Pos} {σ : L2.St} {F H F0 H0 : Hp} {g g0 : Gm} {e : Expr}
/-! ### keys that are tuples -/
def keysD : List D → Option (List Key)
  | [] => some []
  | d :: ds => match keyD d, keysD ds with
    | some k, some ks => some (k :: ks)
    | _, _ => none
def kD : Key → D
  | .inl i => .int i
  | .inr x => .str x
theorem kD_rep {K : Frag} (k : Key) : Rep K F (kV k) (kD k) := by
  cases k with
  | inl i => exact .int i
  | inr x => exact .str x
theorem kD_reps {K : Frag} : ∀ ks : List Key, Reps K F (ks.map kV) (ks.map kD)
  | [] => .nil
  | k :: ks => .cons (kD_rep k) (kD_reps ks)
theorem keysD_rep {K : Frag} : ∀ {vs : List V} {ds : List D} {ks : List Key}, Reps K F vs ds → keysD ds = some ks → vs = ks.map kV
  | _, _, _, .nil, h => by cases h; rfl
  | _, _, _, .cons (d := d) (ds := ds) r t, h => by
    unfold keysD at h
    cases h1 : keyD d with
    | none => simp only [h1] at h; cases h
    | some k => cases h2 : keysD ds with
      | none => simp only [h1, h2] at h; cases h
      | some ks =>
        simp only [h1, h2] at h; cases h
        rw [List.map_cons, ← keyD_rep r h1, ← keysD_rep t h2]
/-- a proper part of a tuple, to be a key -/
def dSlK (d : D) (lo hi : Option Int) : Option D := match d with
  | .tup ds => if (cutD ds lo hi).length < ds.length then (keysD (cutD ds lo hi)).map .ktp else none
  | _ => none
def mSlK (ma : M Hd) (ml mh : M (Option Int)) : M D := ma.bind fun a => ml.bind fun lo => mh.bind fun hi => mF1 (fun d => dSlK d lo hi) a
theorem se_sliceK {e : Expr} {lo hi : Option Expr} {p2 : Pos} {ma : M Hd} {ml mh : M (Option Int)} (he : SO X W e ma) (hl : SPo X W lo ml) (hu : SPo X W hi mh) : SE X W (.Subscript e (.Slice lo hi none p2) pos) (mSlK ma ml mh) :=
  PE_imp (pe_slice sl_tupA he hl hu) fun σ H Q q => by
    obtain ⟨F, g, S, q⟩ := q
    refine ⟨F, g, S, Pst_bind Stp.refl q fun h v F1 H1 g1 S1 P1 P01 r1 q1 => ⟨F1, g1, S1, Pst_bind P01 q1 fun lo l F2 H2 g2 S2 P2 P02 r2 q2 => ⟨F2, g2, S2, Pst_bind P02 q2 fun hi u F3 H3 g3 S3 P3 P03 r3 q3 => ?_⟩⟩⟩
    cases (show lo = l from r2)
    cases (show hi = u from r3)
    obtain ⟨F4, d, z, sb, r, hz, k⟩ := f1_ok S3 P03 (HdR.mono (P2.fg.trans P3.fg) r1) q3
    cases d with
    | tup ds =>
      simp only [dSlK] at hz
      by_cases lt : (cutD ds lo hi).length < ds.length
      · rw [if_pos lt] at hz
        cases hk : keysD (cutD ds lo hi) with
        | none => rw [hk] at hz; cases hz
        | some ks =>
          rw [hk] at hz; cases hz
          obtain ⟨p, vs, rfl, k1, k2, k3⟩ := r.tup sb
          refine ⟨p, vs, rfl, k1, fun e => ?_, fun _ t nt => ?_⟩
          · have : cutD ds lo hi = ds := by
              unfold cutD
              rw [← k2.length, e.1, e.2]
              simp [k2.length]
            rw [this] at lt
            exact absurd lt (Nat.lt_irrefl _)
          · have ev := keysD_rep (cut_rep k2 (lo := lo) (hi := hi)) hk
            rw [ev]
            exact k _ _ _ (Al.mk1 sb nt) (.ktp upd_same)
      · rw [if_neg lt] at hz; cases hz
    | _ => simp [dSlK] at hz
/-! ### dict(a list of pairs) -/
def KR (K : Frag) (F : Hp) (kv : List (List Key × V)) (ds : List (List Key × D)) : Prop := Paired (fun p q => p.1 = q.1 ∧ Rep K F p.2 q.2) kv ds
theorem KR.keys {K : Frag} {kv : List (List Key × V)} {ds : List (List Key × D)} (r : KR K F kv ds) : kv.map (·.1) = ds.map (·.1) := by
  unfold KR at r
  induction r with
  | nil => rfl
  | cons h t ih => rw [List.map_cons, List.map_cons, ih, h.1]
theorem KR.vals {K : Frag} {kv : List (List Key × V)} {ds : List (List Key × D)} (r : KR K F kv ds) : Reps K F (kv.map (·.2)) (ds.map (·.2)) := by
  unfold KR at r
  induction r with
  | nil => exact .nil
  | cons h t ih => exact .cons h.2 ih
theorem KR.of {K : Frag} : ∀ {kv : List (List Key × V)} {ds : List (List Key × D)}, kv.map (·.1) = ds.map (·.1) → Reps K F (kv.map (·.2)) (ds.map (·.2)) → KR K F kv ds
  | [], [], _, _ => .nil
  | [], _ :: _, h, _ => by simp at h
  | _ :: _, [], h, _ => by simp at h
  | p :: kv, q :: ds, h, r => by
    rw [List.map_cons, List.map_cons] at h r
    injection h with h1 h2
    cases r with
    | cons r t => exact .cons ⟨h1, r⟩ (KR.of h2 t)
theorem KR.length {K : Frag} {kv : List (List Key × V)} {ds : List (List Key × D)} (r : KR K F kv ds) : kv.length = ds.length := Paired.length r
/-- d[k] = v on data -/
def putD (kvs : List (List Key × D)) (k : List Key) (v : D) : List (List Key × D) :=
  if (kvs.any fun kv => decide (kv.1 = k)) = true then kvs.map (fun kv => if kv.1 = k then (kv.1, v) else kv) else kvs ++ [(k, v)]
def getD (kvs : List (List Key × D)) (k : List Key) : Option D := (kvs.find? fun kv => decide (kv.1 = k)).map (·.2)
def mergeD (kvs more : List (List Key × D)) : List (List Key × D) := more.foldl (fun acc kv => putD acc kv.1 kv.2) kvs
theorem KR.any {K : Frag} {kv : List (List Key × V)} {ds : List (List Key × D)} (r : KR K F kv ds) (k : List Key) : (kv.any fun kv => decide (kv.1 = k)) = ds.any fun kv => decide (kv.1 = k) := by
  unfold KR at r
  induction r with
  | nil => rfl
  | cons h t ih => rw [List.any_cons, List.any_cons, ih, h.1]
theorem KR.put {K : Frag} {kv : List (List Key × V)} {ds : List (List Key × D)} (r : KR K F kv ds) (k : List Key) {v : V} {d : D} (rv : Rep K F v d) : KR K F (putK kv k v) (putD ds k d) := by
  unfold putK putD
  rw [r.any k]
  by_cases q : (ds.any fun kv => decide (kv.1 = k)) = true
  · rw [if_pos q, if_pos q]
    unfold KR at r ⊢
    clear q
    induction r with
    | nil => exact .nil
    | @cons p q ps qs h t ih =>
      rw [List.map_cons, List.map_cons]
      refine .cons ?_ ih
      by_cases z : p.1 = k
      · rw [if_pos z, if_pos (h.1.symm.trans z)]; exact ⟨h.1, rv⟩
      · rw [if_neg z, if_neg (fun y => z (h.1.trans y))]; exact h
  · rw [if_neg q, if_neg q]; exact Paired.snoc r ⟨rfl, rv⟩
theorem KR.merge {K : Frag} : ∀ {more : List (List Key × V)} {md : List (List Key × D)} {kv : List (List Key × V)} {ds : List (List Key × D)}, KR K F more md → KR K F kv ds → KR K F (mergeT kv more) (mergeD ds md) := by
  intro more md kv ds r
  unfold KR at r
  induction r generalizing kv ds with
  | nil => intro q; exact q
  | @cons p q ps qs h t ih =>
    intro r0
    have e : KR K F (putK kv p.1 p.2) (putD ds q.1 q.2) := by
      have := KR.put r0 p.1 h.2
      rw [← h.1]; exact this
    exact ih e
theorem KR.get {K : Frag} {kv : List (List Key × V)} {ds : List (List Key × D)} (r : KR K F kv ds) (k : List Key) {v0 : V} {d0 : D} (r0 : Rep K F v0 d0) : Rep K F ((valV kv k).getD v0) ((getD ds k).getD d0) := by
  unfold KR at r
  induction r with
  | nil => exact r0
  | @cons p q ps qs h t ih =>
    by_cases z : p.1 = k
    · have : getD (q :: qs) k = some q.2 := by simp [getD, List.find?_cons, h.1.symm.trans z]
      rw [valV_pos z, this]; exact h.2
    · have z' : ¬ q.1 = k := fun y => z (h.1.trans y)
      have : getD (q :: qs) k = getD qs k := by simp [getD, List.find?_cons, z']
      rw [valV_neg z, this]; exact ih
/-- pairs (key, value) -/
def pairD : D → Option (List Key × D)
  | .tup [.ktp k, v] => some (k, v)
  | _ => none
def pairsD : List D → Option (List (List Key × D))
  | [] => some []
  | d :: ds => match pairD d, pairsD ds with
    | some p, some ps => some (p :: ps)
    | _, _ => none
theorem pairD_eq {d : D} {p : List Key × D} (h : pairD d = some p) : d = .tup [.ktp p.1, p.2] := by
  unfold pairD at h
  split at h
  · cases h; rfl
  · cases h
theorem pairs_rep {K : Frag} (sb : Sub F H) : ∀ {vs : List V} {ds : List D} {kvs : List (List Key × D)}, Reps K F vs ds → pairsD ds = some kvs →
    ∃ (ps : List Addr) (kv : List (List Key × V)), vs = ps.map V.ref ∧ KR K F kv kvs ∧ Paired (fun p kv => ∃ b, SqT K H p [.ref b, kv.2] ∧ H b = some (.tup (kv.1.map kV))) ps kv
  | _, _, _, .nil, h => by cases h; exact ⟨[], [], rfl, .nil, .nil⟩
  | _, _, _, .cons (d := d) (ds := ds) r t, h => by
    unfold pairsD at h
    cases h1 : pairD d with
    | none => simp only [h1] at h; cases h
    | some p => cases h2 : pairsD ds with
      | none => simp only [h1, h2] at h; cases h
      | some kvs =>
        simp only [h1, h2] at h; cases h
        obtain ⟨ps, kv, e1, e2, e3⟩ := pairs_rep sb t h2
        cases pairD_eq h1
        cases r with
        | tup hs rs =>
          cases rs with
          | cons ra rs => cases rs with
            | cons rb rs =>
              cases rs
              cases ra with
              | ktp hb =>
                rename_i a v b
                exact ⟨a :: ps, (p.1, v) :: kv, by rw [List.map_cons, e1], .cons ⟨rfl, rb⟩ e2, .cons ⟨b, sb.tup hs, sb _ _ hb⟩ e3⟩
def dDict : List D → Option D
  | [.lst xs] => (pairsD xs).map fun kvs => .dit (mergeD [] kvs)
  | _ => none
theorem cell_dit {K : Frag} {a : Addr} {kv : List (List Key × V)} {ds : List (List Key × D)} (r : KR K F kv ds) : Cell K F (upd H a (.dT kv)) a (.dit ds) := ⟨kv, upd_same, r.keys, r.vals⟩
theorem cw_dict (hc : X.calm = true) (hu : X.A.units + 64 < cLine) : CallR X (.type "dict") (rNs X.K dDict) := by
  refine callD (call_dictT hc (by omega)) fun xs H Q ⟨F, ds, z, s, r, h, q⟩ => ?_
  obtain ⟨d, rfl⟩ := one_arg (f := dDict) h rfl fun a b r => by cases a <;> rfl
  obtain ⟨v, rfl, k0⟩ := rovs1 r
  clear r
  have r := k0
  cases d with
  | lst ds =>
    simp only [dDict] at h
    cases hp : pairsD ds with
    | none => rw [hp] at h; cases h
    | some kvs =>
      rw [hp] at h; cases h
      obtain ⟨p, vs, rfl, k1, k2⟩ := r.lst s
      obtain ⟨ps, kv, e1, e2, e3⟩ := pairs_rep s k2 hp
      subst e1
      refine ⟨p, ps, kv, rfl, .inl (.inl k1), e3, fun t nt => ?_⟩
      refine q _ _ _ (Al.mkN s nt) (cell_dit (KR.merge e2 .nil)) fun x f => ?_
      cases foot_upd (o := HO.dT (mergeT [] kv)) (fun _ _ _ z => nomatch z) f
      exact ⟨nt, sub_none s nt⟩
  | _ => cases h
/-! ### d[k] = v, d.get(k, x) -/
def fSetD : D → List D → Option (D × D)
  | .dit kvs, [.ktp k, v] => if kvs.length < 1000000 then some (.non, .dit (putD kvs k v)) else none
  | _, _ => none
def fGet : D → List D → Option (D × D)
  | .dit kvs, [.ktp k, v] => some ((getD kvs k).getD v, .dit kvs)
  | _, _ => none
theorem two_key {f : D → List D → Option (D × D)} {d : D} {ds : List D} {r : D × D} (hf : f = fSetD ∨ f = fGet) (h : f d ds = some r) : ∃ kvs k v, d = .dit kvs ∧ ds = [.ktp k, v] := by
  rcases hf with rfl | rfl
  · unfold fSetD at h
    split at h
    · exact ⟨_, _, _, rfl, rfl⟩
    · cases h
  · unfold fGet at h
    split at h
    · exact ⟨_, _, _, rfl, rfl⟩
    · cases h
theorem reps2 {xs : List V} {d e : D} {K : Frag} (r : Reps K F xs [d, e]) : ∃ v w, xs = [v, w] ∧ Rep K F v d ∧ Rep K F w e := by
  cases r with
  | cons a b => cases b with
    | cons b c => cases c; exact ⟨_, _, rfl, a, b⟩
theorem wset_dict (hu : X.A.units + 64 < cLine) : PSet X (rS X.K fSetD) := by
  intro pins s σ H o i v ov iv u Q I ro ri rv ⟨F, a, d, ds, r, d', sb, ex, c, rs, h, q⟩
  obtain ⟨kvs, k, w, rfl, rfl⟩ := two_key (.inl rfl) h
  simp only [fSetD] at h
  by_cases l : kvs.length < 1000000
  · rw [if_pos l] at h; cases h
    obtain ⟨kv, h1, h2, h3⟩ := c
    have kr := KR.of h2 h3
    cases rs with
    | cons r0 rs => cases rs with
      | cons r1 rs =>
        cases r0 with
        | ktp hb =>
          subst ex
          cases (show ov = Value.ref a from ro)
          refine d_setItem (by omega) I (DPut.t h1 (sb _ _ hb) (by rw [kr.length]; exact Nat.lt_of_lt_of_le l (by decide))) ri rv fun s' I' => ⟨_, I', q .non _ (cell_dit (kr.put k r1)) (fun _ _ _ z => nomatch z) .non⟩
  · rw [if_neg l] at h; cases h
theorem cm_get (hu : X.A.units + 64 < cLine) : MtR X "dict.get" (rC X.K fGet) := by
  intro pins s σ H x xs v us Q I rx rxs ⟨F, a, d, ds, r, d', sb, ex, c, rs, h, q⟩
  obtain ⟨kvs, k, w, rfl, rfl⟩ := two_key (.inr rfl) h
  cases h
  obtain ⟨kv, h1, h2, h3⟩ := c
  have kr := KR.of h2 h3
  obtain ⟨v0, v1, rfl, r0, r1⟩ := reps2 rs
  obtain ⟨u0, u1, rfl, ru0, ru1⟩ := vals2 rxs
  subst ex
  cases (show v = Value.ref a from rx)
  cases r0 with
  | ktp hb =>
    have hs : upd H a (.dT kv) = H := by
      funext b
      by_cases z : b = a
      · subst z; rw [upd_same, h1]
      · rw [upd_ne z]
    refine d_get2 (by omega) I (DGet.t h1 (sb _ _ hb)) ru0 ru1 fun w' s' I' rw' => ⟨_, _, I', rw', ?_⟩
    have := q ((valV kv k).getD v1) (.dT kv) ⟨kv, upd_same, h2, h3⟩ (fun _ _ _ z => nomatch z) (kr.get k r1)
    rw [hs] at this
    exact this
end
end Cq

set_option Elab.async false
set_option linter.all false
set_option maxRecDepth 100000
namespace Cq
open PySem PySem.Spec PyProof.Rows L2
section
variable {K : Frag} {σ : L2.St} {F H F' H' : Hp} {g g' : Gm} {a : Addr} {u u2 : HO} {i : Nat}
def NI (o : HO) : Prop := ∀ C d fv, o ≠ .ins C d fv
theorem foot_swap {b x : Addr} (n2 : NI u2) (f : Foot (upd H a u2) b x) : Foot H b x := by
  rcases f with f | ⟨C, fv, e⟩
  · exact .inl f
  · by_cases z : b = a
    · subst z; rw [upd_same] at e; exact absurd (Option.some.inj e) (n2 _ _ _)
    · rw [upd_ne z] at e; exact .inr ⟨C, fv, e⟩
theorem own_swap {x : Addr} (n2 : NI u2) (o : Own g σ (upd H a u2) x) : Own g σ H x := let ⟨i, d, b, c, e, f⟩ := o; ⟨i, d, b, c, e, foot_swap n2 f⟩
/-- what stands at an address that no slot owns is changed -/
theorem Sta.swapU (S : Sta K F g σ H) (h : H a = some u) (nf : F a = none) (no : ¬ Own g σ H a) (n1 : NI u) (n2 : NI u2) (nro : ∀ (j : Nat) (d : D), g[j]? = some (.ro d) → σ[j]? = some (some (V.ref a)) → Rep K F (.ref a) d) (du : Dt u := by exact ⟨fun _ z => (nomatch z), fun _ z => (nomatch z)⟩) : Sta K F g σ (upd H a u2) := by
  have cell : ∀ {b : Addr} {d : D}, (∃ (i : Nat), (g[i]?).bind Sl.cell = some d ∧ σ[i]? = some (some (V.ref b))) → Cell K F H b d → Cell K F (upd H a u2) b d := fun {b d} ⟨i, c, ea⟩ k => by
    have np : ∀ x, Foot H b x → x ≠ a := fun x f z => no ⟨i, d, b, c, ea, by rw [← z]; exact f⟩
    exact k.same (Sub.refl _) fun x w f h => by rw [upd_ne (np x f)]; exact h
  refine ⟨fun x w e => ?_, S.len, fun i s e => ?_, fun i j d e' b c x ij c1 c2 e1 e2 f1 f2 => S.inj i j d e' b c x ij c1 c2 e1 e2 (foot_swap n2 f1) (foot_swap n2 f2), fun i d b e1 e2 => (S.ro i d b e1 e2).imp id fun r o => r (own_swap n2 o), S.tb.upd (fun w z => by rw [h] at z; cases z; exact du) fun _ _ z => z⟩
  · rw [upd_ne fun z => by rw [z, nf] at e; cases e]; exact S.sub _ _ e
  · have z := S.slot i s e
    have cl : ∀ d, s.cell = some d → (∃ b, σ[i]? = some (some (V.ref b)) ∧ Cell K F H b d ∧ ∀ x, Foot H b x → F x = none) → ∃ b, σ[i]? = some (some (V.ref b)) ∧ Cell K F (upd H a u2) b d ∧ ∀ x, Foot (upd H a u2) b x → F x = none := fun d hd ⟨b, w1, k, n⟩ =>
      ⟨b, w1, cell ⟨i, by rw [e]; exact hd, w1⟩ k, fun x f => n x (foot_swap n2 f)⟩
    cases s with
    | un => trivial
    | im d => exact z
    | ow d => exact cl d rfl z
    | mb d => exact cl d rfl z
    | ro d =>
      obtain ⟨v, w, r⟩ := z
      refine ⟨v, w, ?_⟩
      rcases r with r | ⟨b, rfl, c, n⟩
      · exact .inl r
      · by_cases ap : b = a
        · subst ap; exact .inl (nro i d e w)
        · exact .inr ⟨b, rfl, c.same (Sub.refl _) fun x q f hx => by cases n x f; rw [upd_ne ap]; exact hx, fun x f => n x (foot_swap n2 f)⟩
theorem own_hide {x : Addr} {d : D} (S : Sta K F g σ H) (hs : g[i]? = some (.ow d)) (ha : σ[i]? = some (some (V.ref a))) (o : Own (g.set i .un) σ H x) : Own g σ H x ∧ ¬ Foot H a x := by
  have hc : (g[i]?).bind Sl.cell = some d := by rw [hs]; rfl
  obtain ⟨j, e, b, c, q, f⟩ := o
  rcases gset_bind c with ⟨_, h⟩ | ⟨h1, h2⟩
  · cases h
  · exact ⟨⟨j, e, b, h2, q, f⟩, fun fa => S.inj j i e d b a x h1 h2 hc q ha f fa⟩
theorem Sta.hide {d : D} (S : Sta K F g σ H) (hs : g[i]? = some (.ow d)) (ha : σ[i]? = some (some (V.ref a))) : Sta K F (g.set i .un) σ H := by
  refine ⟨S.sub, by simpa using S.len, fun j t e => ?_, fun j l d1 d2 b1 b2 x jl c1 c2 e1 e2 f1 f2 => ?_, fun j d' b e1 e2 => ?_, S.tb⟩
  · rcases set_get e with ⟨h1, h2⟩ | ⟨h1, h2⟩
    · subst h2; trivial
    · exact S.slot j t h2
  · rcases gset_bind c1 with ⟨_, h⟩ | ⟨h1, h2⟩
    · cases h
    · rcases gset_bind c2 with ⟨_, h⟩ | ⟨h3, h4⟩
      · cases h
      · exact S.inj j l d1 d2 b1 b2 x jl h2 h4 e1 e2 f1 f2
  · rcases set_get e1 with ⟨h1, h2⟩ | ⟨h1, h2⟩
    · cases h2
    · exact (S.ro j d' b h2 e2).imp id fun r o => r (own_hide S hs ha o).1
theorem own_reown {x : Addr} {d : D} (ha : σ[i]? = some (some (V.ref a))) (fl : ∀ x, Foot H a x → x = a) (o : Own (g.set i (.ow d)) σ H x) : Own g σ H x ∨ x = a := by
  obtain ⟨j, e, b, c, q, f⟩ := o
  rcases gset_bind c with ⟨z1, z2⟩ | ⟨h1, h2⟩
  · subst z1; rw [ha] at q; cases q; exact .inr (fl x f)
  · exact .inl ⟨j, e, b, h2, q, f⟩
theorem Sta.reown {d : D} (S : Sta K F g σ H) (ha : σ[i]? = some (some (V.ref a))) (c : Cell K F H a d) (fl : ∀ x, Foot H a x → x = a) (nf : F a = none) (no : ¬ Own g σ H a)
    (nro : ∀ (j : Nat) (d : D), g[j]? = some (.ro d) → σ[j]? = some (some (V.ref a)) → Rep K F (.ref a) d) : Sta K F (g.set i (.ow d)) σ H := by
  refine ⟨S.sub, by simpa using S.len, fun j t e => ?_, fun j l d1 d2 b1 b2 x jl c1 c2 e1 e2 f1 f2 => ?_, fun j d' b e1 e2 => ?_, S.tb⟩
  · rcases set_get e with ⟨h1, h2⟩ | ⟨h1, h2⟩
    · subst h1; subst h2; exact ⟨a, ha, c, fun x f => by rw [fl x f]; exact nf⟩
    · exact S.slot j t h2
  · rcases gset_bind c1 with ⟨z1, z2⟩ | ⟨h1, h2⟩
    · rcases gset_bind c2 with ⟨z3, z4⟩ | ⟨h3, h4⟩
      · exact jl (z1.trans z3.symm)
      · subst z1; rw [ha] at e1; cases e1
        exact no ⟨l, d2, b2, h4, e2, by rw [← fl x f1]; exact f2⟩
    · rcases gset_bind c2 with ⟨z3, z4⟩ | ⟨h3, h4⟩
      · subst z3; rw [ha] at e2; cases e2
        exact no ⟨j, d1, b1, h2, e1, by rw [← fl x f2]; exact f1⟩
      · exact S.inj j l d1 d2 b1 b2 x jl h2 h4 e1 e2 f1 f2
  · rcases set_get e1 with ⟨h1, h2⟩ | ⟨h1, h2⟩
    · cases h2
    · by_cases z : b = a
      · subst z; exact .inl (nro j d' h2 e2)
      · refine (S.ro j d' b h2 e2).imp id fun r o => ?_
        rcases own_reown ha fl o with o | o
        · exact r o
        · exact z o
/-- a cell is hidden and changed, something runs, the cell is as before again -/
theorem Stp.through {d : D} (S : Sta K F g σ H) (hs : g[i]? = some (.ow d)) (ha : σ[i]? = some (some (V.ref a))) (h : H a = some u) (fl : ∀ x, Foot H a x → x = a) (n1 : NI u) (n2 : NI u2)
    (P : Stp F (upd H a u2) (g.set i .un) σ F' H' g' σ) : Stp F H g σ F' (upd H' a u) (g'.set i (.ow d)) σ := by
  have hc : (g[i]?).bind Sl.cell = some d := by rw [hs]; rfl
  have own_a : Own g σ H a := ⟨i, d, a, hc, ha, .inl rfl⟩
  have back : ∀ x, Own (g.set i .un) σ (upd H a u2) x → Own g σ H x := fun x o => (own_hide S hs ha (own_swap n2 o)).1
  have fl3 : ∀ x, Foot (upd H' a u) a x → x = a := fun x f => foot_upd (o := u) n1 f
  refine ⟨P.fg, fun x hx => ?_, fun x o e nb n no => ?_, fun x o => ?_, fun j dj e => ?_, fun j dj e => ?_, fun b C dx fv e => ?_⟩
  · by_cases z : x = a
    · subst z; rw [upd_same]; exact fun y => nomatch y
    · rw [upd_ne z]; exact P.st x (by rw [upd_ne z]; exact hx)
  · have z : x ≠ a := fun z => by subst z; exact no own_a
    rw [upd_ne z]
    exact P.fr x o (by rw [upd_ne z]; exact e) nb n fun o' => no (back x o')
  · rcases own_reown ha fl3 o with o | o
    · rcases P.own x (own_swap n1 o) with o | o
      · exact .inl (back x o)
      · refine .inr ?_
        by_cases z : x = a
        · subst z; rw [upd_same] at o; cases o
        · rw [upd_ne z] at o; exact o
    · rw [o]; exact .inl own_a
  · rcases set_get e with ⟨h1, h2⟩ | ⟨h1, h2⟩
    · cases h2
    · obtain ⟨h3, h4⟩ := P.kro j dj h2
      rcases set_get h3 with ⟨h5, h6⟩ | ⟨h5, h6⟩
      · cases h6
      · exact ⟨h6, h4⟩
  · rcases set_get e with ⟨h1, h2⟩ | ⟨h1, h2⟩
    · cases h2
    · obtain ⟨⟨e', h3⟩, h4⟩ := P.kmb j dj h2
      rcases set_get h3 with ⟨h5, h6⟩ | ⟨h5, h6⟩
      · cases h6
      · exact ⟨⟨e', h6⟩, h4⟩
  · have z : b ≠ a := fun z => by subst z; rw [h] at e; exact n1 _ _ _ (Option.some.inj e)
    obtain ⟨fv', q⟩ := P.ki b C dx fv (by rw [upd_ne z]; exact e)
    exact ⟨fv', by rw [upd_ne z]; exact q⟩
/-- a tuple that stands is frozen -/
theorem Al.frzT {q : Addr} {xs : List V} (s : Sub F H) (e : H q = some (.tup xs)) : Al F H (upd F q (.tup xs)) H := by
  refine ⟨fun x o h => ?_, Sub.refl _, fun x o h => ?_, fun x o h nt n => ?_, fun K t => ⟨t.at_, fun x ps h => t.nf x ps (fz_upd (o := .tup xs) (fun _ z => nomatch z) x ps h)⟩⟩
  · by_cases z : x = q
    · subst z; have := s _ _ h; rw [e] at this; rw [upd_same]; exact this
    · rw [upd_ne z]; exact h
  · by_cases z : x = q
    · subst z; rw [upd_same] at h; rw [e]; exact h
    · rw [upd_ne z] at h; exact s _ _ h
  · have z : x ≠ q := fun z => by subst z; rw [e] at h; cases h; exact nt () (.tup _)
    rw [upd_ne z]; exact n
end
section
variable {X : Cx} {W : WX} {pos : Pos} {σ : L2.St} {F H F0 H0 : Hp} {g g0 : Gm}
def itemD (p : List Key × D) : D := .tup [.tup (p.1.map kD), p.2]
theorem items_dit {K : Frag} {a : Addr} {od : Obj} {kv : List (List Key × V)} {ds : List (List Key × D)} (r : KR K F kv ds) : Items K F (fun H => H a = some (.frz od (.dT kv))) (ItiT a od kv) (ds.map itemD) where
  go := fun i H s l lt => ⟨l, by rw [r.length]; simpa using lt⟩
  stop := fun i H s l le => ⟨l, by rw [r.length]; simpa using le⟩
  yld := fun i H x H' F1 d s s1 l y e => by
    obtain ⟨T, k, v, q, hk, hq, rfl, hT, rfl⟩ := y
    obtain ⟨p, hp, e1, e2⟩ := paired_get r hk
    rw [List.getElem?_map, hp] at e
    cases e
    have A1 := Al.frzT s1 hq
    have A2 := Al.mk1 (o := HO.tup [.ref q, v]) A1.sub hT
    refine ⟨_, A1.trans A2, .tup (.inl (.inl upd_same)) (.cons ?_ (.cons ((e2.mono s).mono (A1.fg.trans A2.fg)) .nil))⟩
    have e1 : k = p.1 := e1
    rw [← e1]
    exact .tup (.inl (.inl (A2.fg _ _ upd_same))) (kD_reps k)
def mLcI (i : Nat) (vs : List Nat) (T : Tgt) (e : M D) : M D := fun g => match g[i]? with
  | some (.ow (.dit kvs)) => (match mLcR none vs T (M.ret true) e (kvs.map itemD) (g.set i .un) with
    | some (.ok d g') => (match g'[i]? with
      | some .un => some (.ok d (g'.set i (.ow (.dit kvs))))
      | _ => none)
    | _ => none)
  | _ => none
theorem sn_lcI {x : Str} {p apos cpos tpos : Pos} {kk : Nat} {elts : List Expr} {elt : Expr} {scope : Scope} {own : List (Str × Nat)} {T : Tgt} {ee : M D} (i : Nat) (hc : X.calm = true) (hN : X.N.Nodup) (hi : X.N[i]? = some x) (hv : Vis X.env.scope x) (ok : BlkOk X.N X.env.scope scope own)
    (hg : ∀ (s : Shared) (H : Hp) (C : Addr) (cl : List (Str × Addr)) (fp : List Addr), SG (X.blk s H scope (compEnvC scope cl C X.env) fp) (.Tuple elts kk tpos) (own.map (·.2)) T)
    (he : ∀ (s : Shared) (H : Hp) (C : Addr) (cl : List (Str × Addr)) (fp : List Addr), SE (X.blk s H scope (compEnvC scope cl C X.env) fp) W0 elt ee)
    (hs : ∀ y, foldedSetIterable (.Call (.Attribute (.Name x p) "items" apos) [] [] cpos) X.env y = pure y := by intro _; rfl)
    (hd : (x == ("__debug__" : Str)) = false := by decide) (hcd : (x == ("__classdict__" : Str)) = false := by decide)
    (hbase : attributeBase (.Name x p) "items" X.env (eval (.Name x p) X.env) = eval (.Name x p) X.env := by rfl) (hline : (apos.endLine == cpos.line) = true := by rfl) :
    SN X W (.ListComp elt [⟨.Tuple elts kk tpos, .Call (.Attribute (.Name x p) "items" apos) [] [] cpos, [], 0⟩] scope pos) (mLcI i (own.map (·.2)) T ee) :=
  PE_imp (pe_lock (pe_lc (g := tTg X.K (own.map fun p : Str × Nat => p.2) T) (tt := tG X.K W0 relB (M.ret true)) (te := tG X.K W0 (relE X.K) ee) hc hN (pi_itemsT (pe_var hi hv hd hcd) hbase hline) ok hg (fun _ _ _ _ _ => st_nil) he hs)) fun σ H Q q => by
  obtain ⟨F, g, S, q⟩ := q
  unfold mLcI at q
  split at q
  · rename_i kvs hgi
    have hcell : (g[i]?).bind Sl.cell = some (.dit kvs) := by rw [hgi]; rfl
    obtain ⟨a, ha, c, nf⟩ := S.cell hcell
    have c0 := c
    obtain ⟨kv, h1, h2, h3⟩ := c
    have kr := KR.of h2 h3
    have n1 : NI (.dT kv) := fun _ _ _ z => nomatch z
    have fl : ∀ x, Foot H a x → x = a := fun x f => by
      rcases f with f | ⟨C, fv, f⟩
      · exact f
      · rw [h1] at f; cases f
    have nfa := nf a (.inl rfl)
    have own_a : Own g σ H a := ⟨i, _, a, hcell, ha, .inl rfl⟩
    refine ⟨a, .dT kv, h1, trivial, fun od => ?_⟩
    have n2 : NI (.frz od (.dT kv)) := fun _ _ _ z => nomatch z
    have S1 := S.hide hgi ha
    have no1 : ¬ Own (g.set i .un) σ H a := fun o => (own_hide S hgi ha o).2 (.inl rfl)
    have nro : ∀ (j : Nat) (d : D), g[j]? = some (.ro d) → σ[j]? = some (some (V.ref a)) → Rep X.K F (.ref a) d := fun j d e w => by
      rcases S.ro j d a e w with r | r
      · exact r
      · exact absurd own_a r
    have S2 : Sta X.K F (g.set i .un) σ (upd H a (.frz od (.dT kv))) := S1.swapU h1 nfa no1 n1 n2 fun j d e w => by
      rcases set_get e with ⟨_, z⟩ | ⟨_, z⟩
      · cases z
      · exact nro j d z w
    have no2 : ¬ Own (g.set i .un) σ (upd H a (.frz od (.dT kv))) a := fun o => no1 (own_swap n2 o)
    refine ⟨.ref a, ha, a, od, kv, rfl, upd_same, lc_rest (vs := own.map (·.2)) (Q := fun v H' => H' a = some (.frz od (.dT kv)) ∧ Q v (upd H' a (.dT kv))) (c := M.ret true) (T := T) (e := ee) (ds := kvs.map itemD) (F := F) (H := upd H a (.frz od (.dT kv))) (g := g.set i .un) S2 Stp.refl ⟨_, items_dit (a := a) (od := od) kr, upd_same, fun F2 H2 σ2 g2 P => (P.fr' upd_same (fun _ z => nomatch z) (fun _ z => nomatch z) nfa no2).1, fun _ _ z => nomatch z⟩ (W := W) (l := none) ?_⟩
    cases o : mLcR none (own.map (·.2)) T (M.ret true) ee (kvs.map itemD) (g.set i .un) with
    | none => rw [o] at q; exact q
    | some r => cases r with
      | ex cc gg => rw [o] at q; exact q.elim
      | ok d g' =>
        rw [o] at q
        simp only at q
        split at q
        · rename_i hg'
          intro v F' H' S' P' ⟨b, ev, cb, nb⟩
          obtain ⟨k1, k2⟩ := P'.fr' upd_same (fun _ z => nomatch z) (fun _ z => nomatch z) nfa no2
          have no' : ¬ Own g' σ H' a := fun o => by
            rcases P'.own a o with o | o
            · exact no2 o
            · rw [upd_same] at o; cases o
          have nro' : ∀ (j : Nat) (d : D), g'[j]? = some (.ro d) → σ[j]? = some (some (V.ref a)) → Rep X.K F' (.ref a) d := fun j d e w => by
            obtain ⟨z1, _⟩ := P'.kro j d e
            rcases set_get z1 with ⟨_, z⟩ | ⟨_, z⟩
            · cases z
            · exact (nro j d z w).mono P'.fg
          have S3 : Sta X.K F' g' σ (upd H' a (.dT kv)) := S'.swapU k1 k2 no' n2 n1 nro'
          have fl3 : ∀ x, Foot (upd H' a (.dT kv)) a x → x = a := fun x f => foot_upd (o := HO.dT kv) n1 f
          have S4 := S3.reown (d := .dit kvs) ha ⟨kv, upd_same, h2, h3.mono P'.fg⟩ fl3 k2 (fun o => no' (own_swap n1 o)) nro'
          have P4 := Stp.through S hgi ha h1 fl n1 n2 P'
          refine ⟨k1, q v F' _ S4 P4 ⟨b, ev, ?_, fun x f => ?_⟩⟩
          · refine cb.same (Sub.refl _) fun x w f hx => ?_
            have : x ≠ a := fun z => by
              have := (nb x f).2.2
              rw [z, upd_same] at this; cases this
            rw [upd_ne this]; exact hx
          · obtain ⟨m1, m2, m3⟩ := nb x (foot_swap n1 f)
            have xa : x ≠ a := fun z => by rw [z, upd_same] at m3; cases m3
            refine ⟨m1, fun o => ?_, by rw [upd_ne xa] at m3; exact m3⟩
            rcases own_reown ha fl3 o with o | o
            · exact m2 (own_swap n1 o)
            · exact xa o
        · exact q.elim
  · exact q.elim
end
end Cq

set_option Elab.async false
set_option linter.all false
set_option maxRecDepth 100000
namespace Cq
open PySem PySem.Spec PyProof.Rows L2
/-! ### repr of data that hold empty dicts -/
/-- the object at sys.modules' place is a dict -/
def SmK (K : Frag) : Prop := ∃ o, K.lookup sysModules = some o ∧ o.cls = .type "dict"
def keyP : Key → PyData
  | .inl i => .int i
  | .inr x => .str x
mutual
def D.pyd : D → Option PyData
  | .non => some .none
  | .bl b => some (.bool b)
  | .int i => some (.int i)
  | .str x => some (.str x)
  | .tup xs => (pydL xs).map .tuple
  | .lst xs => (pydL xs).map .list
  | .dik kvs => (pydK kvs).map .dict
  | _ => none
def pydK : List (Key × D) → Option (List (PyData × PyData))
  | [] => some []
  | (k, d) :: r => match d.pyd, pydK r with
    | some p, some ps => some ((keyP k, p) :: ps)
    | _, _ => none
def pydL : List D → Option (List PyData)
  | [] => some []
  | d :: ds => match d.pyd, pydL ds with
    | some p, some ps => some (p :: ps)
    | _, _ => none
end
mutual
theorem py_pyd : ∀ {d : D} {p : PyData}, d.py = some p → d.pyd = some p
  | .non, _, e => by simpa only [D.py, D.pyd] using e
  | .bl _, _, e => by simpa only [D.py, D.pyd] using e
  | .int _, _, e => by simpa only [D.py, D.pyd] using e
  | .str _, _, e => by simpa only [D.py, D.pyd] using e
  | .tup xs, _, e => by
    simp only [D.py] at e
    cases q : pyL xs with
    | none => rw [q] at e; cases e
    | some ps => rw [q] at e; cases e; simp only [D.pyd, pyL_pydL q, Option.map_some]
  | .lst xs, _, e => by
    simp only [D.py] at e
    cases q : pyL xs with
    | none => rw [q] at e; cases e
    | some ps => rw [q] at e; cases e; simp only [D.pyd, pyL_pydL q, Option.map_some]
  | .dik _, _, e => by simp [D.py] at e
  | .dit _, _, e => by simp [D.py] at e
  | .ins _ _, _, e => by simp [D.py] at e
  | .scr _, _, e => by simp [D.py] at e
  | .glo _, _, e => by simp [D.py] at e
  | .ktp _, _, e => by simp [D.py] at e
theorem pyL_pydL : ∀ {ds : List D} {ps : List PyData}, pyL ds = some ps → pydL ds = some ps
  | [], _, e => by simpa only [pyL, pydL] using e
  | d :: ds, _, e => by
    simp only [pyL] at e
    cases q : d.py with
    | none => rw [q] at e; cases e
    | some p => cases q2 : pyL ds with
      | none => rw [q, q2] at e; cases e
      | some ps => rw [q, q2] at e; cases e; simp only [pydL, py_pyd q, pyL_pydL q2]
end
theorem pydK_L : ∀ {kvs : List (Key × D)} {ps : List (PyData × PyData)}, pydK kvs = some ps → pydL (kvs.map (·.2)) = some (ps.map (·.2)) ∧ ps.map (·.1) = kvs.map fun kv => keyP kv.1
  | [], _, e => by simp only [pydK] at e; cases e; exact ⟨rfl, rfl⟩
  | (k, d) :: r, _, e => by
    simp only [pydK] at e
    cases q : d.pyd with
    | none => rw [q] at e; cases e
    | some p => cases q2 : pydK r with
      | none => rw [q, q2] at e; cases e
      | some ps =>
        rw [q, q2] at e; cases e
        obtain ⟨h1, h2⟩ := pydK_L q2
        exact ⟨by simp only [List.map_cons, pydL, q, h1], by simp only [List.map_cons, h2]⟩
theorem keys_read {P : Program} {w : World} {h : Heap} : ∀ {es : List DictEntry} {vs : List (Key × Value)}, Pairs (mixKind P w) es vs → ReadsAll h (es.map (·.key)) (vs.map fun kv => keyP kv.1) [] ∧ es.map (·.val) = vs.map (·.2)
  | _, _, .nil => ⟨.nil, rfl⟩
  | _, _, .cons (kv := kv) hk hv r => by
    obtain ⟨h1, h2⟩ := keys_read (h := h) r
    refine ⟨?_, by simp only [List.map_cons, h2, hv]⟩
    rcases keyIs_shape hk with ⟨i, t, e0, e⟩ | ⟨x, t, e0, e⟩
    · have := ReadsAll.cons (h := h) (.int i t) h1
      simp only [List.map_cons, e, e0]
      exact this
    · have := ReadsAll.cons (h := h) (.str x t) h1
      simp only [List.map_cons, e, e0]
      exact this
theorem kv_vals : ∀ {kv : List (Key × V)} {vs : List (Key × Value)}, KV kv vs → Vals (kv.map (·.2)) (vs.map (·.2)) ∧ kv.map (·.1) = vs.map (·.1)
  | _, _, .nil => ⟨.nil, rfl⟩
  | _, _, .cons h r => by
    obtain ⟨h1, h2⟩ := kv_vals r
    exact ⟨.cons h.2 h1, by simp only [List.map_cons, h.1, h2]⟩
section
variable {X : Cx} {pins : List (Addr × Obj)} {σ : L2.St} {F H : Hp} {s : Shared}
theorem sm_list (I : Inv X pins σ H s) (sm : SmK X.K) {a : Addr} {o : Obj} (h : s.heap.get? a = some o) (hc : o.cls = .type "list") : a ≠ sysModules := fun z => by
  obtain ⟨o', h1, h2⟩ := sm
  subst z
  have e := I.kIn _ _ h1
  rw [h] at e; cases e
  rw [hc] at h2
  exact absurd h2 (by decide +kernel)
mutual
theorem Rep.reads (I : Inv X pins σ H s) (sm : SmK X.K) (sb : Sub F H) : ∀ {v : V} {d : D} {p : PyData} {u : Value}, Rep X.K F v d → d.pyd = some p → RelV v u → ∃ as, Reads s.heap u p as ∧ sysModules ∉ as
  | _, _, _, _, .non, e, r => by simp only [D.pyd] at e; cases e; cases r; exact ⟨_, .none, by simp⟩
  | _, _, _, _, .bl b, e, r => by simp only [D.pyd] at e; cases e; cases r; exact ⟨_, .bool b, by simp⟩
  | _, _, _, _, .int i, e, r => by simp only [D.pyd] at e; cases e; obtain ⟨t, rfl⟩ := r; exact ⟨_, .int i t, by simp⟩
  | _, _, _, _, .str x, e, r => by simp only [D.pyd] at e; cases e; obtain ⟨t, rfl⟩ := r; exact ⟨_, .str x t, by simp⟩
  | _, .tup xs, _, _, .tup h t, e, r => by
    simp only [D.pyd] at e
    cases q : pydL xs with
    | none => rw [q] at e; cases e
    | some ps =>
      rw [q] at e; cases e
      cases r
      obtain ⟨its, rv, ⟨o, ho, hc, n, hd⟩, _⟩ := I.tuple (sb.tup h)
      obtain ⟨as, hr, ns⟩ := Reps.reads I sm sb t q rv
      exact ⟨_, .tuple ho hc hd hr, ns⟩
  | _, .lst xs, _, _, .lst h t, e, r => by
    simp only [D.pyd] at e
    cases q : pydL xs with
    | none => rw [q] at e; cases e
    | some ps =>
      rw [q] at e; cases e
      cases r
      obtain ⟨its, rv, ⟨o, n, ho, hc, _, hd⟩, _⟩ := I.list (.inl (.inl (sb _ _ h)))
      obtain ⟨as, hr, ns⟩ := Reps.reads I sm sb t q rv
      exact ⟨_, .list ho hc hd hr, fun z => (List.mem_cons.mp z).elim (fun z => sm_list I sm ho hc z.symm) ns⟩
  | _, .dik kvs, _, _, .dik h k t, e, r => by
    simp only [D.pyd] at e
    cases q : pydK kvs with
    | none => rw [q] at e; cases e
    | some ps =>
      rw [q] at e; cases e
      cases r
      obtain ⟨q1, q2⟩ := pydK_L q
      obtain ⟨_, hs, vs, rel, o, es, ep, h1, h2, h3, h4, h5, h6⟩ := dk_of I.hok (sb _ _ h)
      obtain ⟨kr, ke⟩ := keys_read (h := s.heap) h5
      obtain ⟨rv, kk⟩ := kv_vals rel
      obtain ⟨as, hr, ns⟩ := Reps.reads I sm sb t q1 rv
      have ek : (vs.map fun kv => keyP kv.1) = ps.map (·.1) := by
        rw [q2]
        have e1 := congrArg (List.map keyP) (kk.symm.trans k)
        rw [List.map_map, List.map_map] at e1
        exact e1
      rw [ek] at kr
      rw [← ke] at hr
      refine ⟨_, .dict h1 h2.1 h3 kr hr, fun z => ?_⟩
      rcases List.mem_append.mp z with z | z
      · rcases List.mem_cons.mp z with z | z
        · exact beq_eq_false_iff_ne.mp hs z.symm
        · cases z
      · exact ns z
  | _, _, _, _, .dit _ _ _, e, _ => by simp [D.pyd] at e
  | _, _, _, _, .ins _ _ _ _, e, _ => by simp [D.pyd] at e
  | _, _, _, _, .scr _, e, _ => by simp [D.pyd] at e
  | _, _, _, _, .glo _, e, _ => by simp [D.pyd] at e
  | _, _, _, _, .ktp _, e, _ => by simp [D.pyd] at e
theorem Reps.reads (I : Inv X pins σ H s) (sm : SmK X.K) (sb : Sub F H) : ∀ {vs : List V} {ds : List D} {ps : List PyData} {us : List Value}, Reps X.K F vs ds → pydL ds = some ps → Vals vs us → ∃ as, ReadsAll s.heap us ps as ∧ sysModules ∉ as
  | _, _, _, _, .nil, e, r => by simp only [pydL] at e; cases e; cases r; exact ⟨_, .nil, by simp⟩
  | _, d :: ds, _, _, .cons t ts, e, r => by
    simp only [pydL] at e
    cases q : d.pyd with
    | none => rw [q] at e; cases e
    | some p => cases q2 : pydL ds with
      | none => rw [q, q2] at e; cases e
      | some ps =>
        rw [q, q2] at e; cases e
        cases r with
        | cons r rs =>
          obtain ⟨as, h1, n1⟩ := Rep.reads I sm sb t q r
          obtain ⟨bs, h2, n2⟩ := Reps.reads I sm sb ts q2 rs
          exact ⟨_, .cons h1 h2, fun z => (List.mem_append.mp z).elim n1 n2⟩
end
theorem RoV.reads (I : Inv X pins σ H s) (sm : SmK X.K) (sb : Sub F H) {v : V} {d : D} {p : PyData} {u : Value} (k : RoV X.K F H v d) (e : d.pyd = some p) (r : RelV v u) : ∃ as, Reads s.heap u p as ∧ sysModules ∉ as := by
  rcases k with k | ⟨a, rfl, c, _⟩
  · exact Rep.reads I sm sb k e r
  · cases d with
    | lst xs =>
      obtain ⟨vs, h, t⟩ := c
      simp only [D.pyd] at e
      cases q : pydL xs with
      | none => rw [q] at e; cases e
      | some ps =>
        rw [q] at e; cases e
        cases r
        obtain ⟨its, rv, ⟨o, n, ho, hc, _, hd⟩, _⟩ := I.list (.inl (.inl h))
        obtain ⟨as, hr, ns⟩ := Reps.reads I sm sb t q rv
        exact ⟨_, .list ho hc hd hr, fun z => (List.mem_cons.mp z).elim (fun z => sm_list I sm ho hc z.symm) ns⟩
    | dik xs =>
      obtain ⟨kv, h, k, t⟩ := c
      simp only [D.pyd] at e
      cases q : pydK xs with
      | none => rw [q] at e; cases e
      | some ps =>
        rw [q] at e; cases e
        cases r
        obtain ⟨q1, q2⟩ := pydK_L q
        obtain ⟨_, hs, vs, rel, o, es, ep, h1, h2, h3, h4, h5, h6⟩ := dk_of I.hok h
        obtain ⟨kr, ke⟩ := keys_read (h := s.heap) h5
        obtain ⟨rv, kk⟩ := kv_vals rel
        obtain ⟨as, hr, ns⟩ := Reps.reads I sm sb t q1 rv
        have ek : (vs.map fun kv => keyP kv.1) = ps.map (·.1) := by
          rw [q2]
          have e1 := congrArg (List.map keyP) (kk.symm.trans k)
          rw [List.map_map, List.map_map] at e1
          exact e1
        rw [ek] at kr
        rw [← ke] at hr
        refine ⟨_, .dict h1 h2.1 h3 kr hr, fun z => ?_⟩
        rcases List.mem_append.mp z with z | z
        · rcases List.mem_cons.mp z with z | z
          · exact beq_eq_false_iff_ne.mp hs z.symm
          · cases z
        · exact ns z
    | dit _ => simp [D.pyd] at e
    | ins _ _ => simp [D.pyd] at e
    | _ => exact c.elim
end
section
variable {X : Cx}
end
end Cq

set_option Elab.async false
set_option linter.all false
set_option maxRecDepth 100000
namespace Cq
open PySem PySem.Spec PyProof.Rows L2
section
variable {X : Cx} {W : WX} {pos p : Pos} {σ : L2.St} {F H F0 H0 : Hp} {g g0 : Gm} {e : Expr} {es : List Expr} {x : Str} {u : Value}
/-- C(a, b, ..) of a class whose __init__ takes any number of things -/
def mMkA (c : Nat) (f : Fn) (ma : M (List Hd)) : M D := ma.bind fun hs => (mFrzs hs).bind fun ds => fun g => if ds.length ≤ 1000000 then mMk c f [.tup ds] g else none
theorem sn_mkA {c : Nat} {f : Fn} {ma : M (List Hd)} (C : CalR X W u (spMk (ca X.K c) (spStar 1 (spF X.K [.mu, .im] f)))) (hg : Gl X x) (hm : X.mg x = some u) (hk : PySem.W.keepIn X.K u = true) (ha : SA X W (e :: es) ma) (hdb : (x == ("__debug__" : Str)) = false := by decide)
    (he : starEach (e :: es) X.env = (false, eval e X.env) :: starEach es X.env := by rfl) (hpl : (backTo pos (starEach es X.env)).any (·.1) = false := by rfl) : SN X W (.Call (.Name x p) (e :: es) [] pos) (mMkA c f ma) :=
  PE_imp (pe_calR C hg hm hk ha hdb he hpl) fun σ H Q q => by
    obtain ⟨F, g, S, q⟩ := q
    refine ⟨F, g, S, Pst_bind Stp.refl q fun hs vs F1 H1 g1 S1 P1 P01 r1 q1 => ?_⟩
    refine mFrzs_ok (W := W) (R := fun vs H1 => spMk (ca X.K c) (spStar 1 (spF X.K [.mu, .im] f)) vs H1 Q (WE W σ)) S1 Stp.refl r1 (Pst_bind P01 q1 fun ds ws F2 H2 g2 S2 P2 P02 r2 q2 => ?_)
    by_cases l : ds.length ≤ 1000000
    · rw [if_pos l] at q2
      exact mkS_ok S2 P02 r2 l q2
    · rw [if_neg l] at q2; exact q2.elim
theorem sn_mkA0 {c : Nat} {f : Fn} (C : CalR X W u (spMk (ca X.K c) (spStar 1 (spF X.K [.mu, .im] f)))) (hg : Gl X x) (hm : X.mg x = some u) (hk : PySem.W.keepIn X.K u = true) (hdb : (x == ("__debug__" : Str)) = false := by decide) : SN X W (.Call (.Name x p) [] [] pos) (mMk c f [.tup []]) :=
  PE_imp (pe_calR0 C hg hm hk hdb) fun σ H Q q => by
    obtain ⟨F, g, S, q⟩ := q
    exact mkS_ok S Stp.refl .nil (by decide) q
end
end Cq

set_option Elab.async false
set_option linter.all false
set_option maxRecDepth 100000
namespace Cq
open PySem PySem.Spec PyProof.Rows L2
section
variable {X : Cx} {W : WX} {pos p apos : Pos} {σ : L2.St} {F H F0 H0 : Hp} {g g0 : Gm} {a b e o : Expr} {es : List Expr} {ta tb te : TE} {tA : TA} {ma mb me : M Hd} {fa : Addr} {k : Nat}
/-! ### repr(x) by an instance's own method -/
end
end Cq

set_option Elab.async false
set_option linter.all false
set_option maxRecDepth 100000
namespace Cq
namespace S2
open PySem PySem.W PySem.Calls PyProof.Rows Builtin
/-! ### x != b of an instance whose class has an own __eq__ and object's __ne__ -/
section
variable {prog : Program} {w : World} {A : Around} {E : Value → Shared → Prop} {s : Shared} {K : Frag} {x C L f : Addr} {h₀ : Heap} {m : Str → Option Value} {ox : Obj} {od : Option Obj} {b tb : Value}
def NotBack (Q : Value → Shared → Prop) (v : Value) (s' : Shared) : Prop := match v with
  | .bool r => Q (.bool (!r)) s'
  | _ => False
theorem callNe_K {Q : Value → Shared → Prop} (hu : A.units + 1 < cLine) (X : K.In s.heap) (I : InstAt s.heap x ox C od) (hs : findIn K (.ref C) "__eq__" = some (some (.ref f))) (hf : isFn K (.ref f) = true) (hm : mroIn K C (.type "object") = some true)
    (h : wpAny (model prog w) A.in1 (call (.ref f) [.ref x, b]) (NotBack Q) E s) : wpAny (model prog w) A (call (.builtin "object.__ne__") [.ref x, b]) Q E s := by
  have sub : Looks (model prog w) s.heap (isInstance (.ref x) (.type "object")) true := I.type.andThen (looks_mroIn X hm)
  refine wpAny_call (codeAny_call_builtin PySem.F.cmp_object.ne.plain PySem.F.cmpEntry_ne (@check_slot (model prog w) _ _ s "object.__ne__" "object" "__ne__" (.ref x) [b] [] _ PySem.F.cmpKind_ne PySem.F.cmpSplit_ne sub (PySem.F.cmpArgs_ne _ _) ?_))
  unfold Builtin.«object.__ne__»
  refine wpAny_bind (m := slotArgs "__ne__" 1 _) (wpAny_pure ?_)
  refine wpAny_bind (wpAny_cRoomFor (show A.in1.units < cLine from hu) ?_)
  refine wpAny_bind (m := callSpecialIfBound? (.ref x) (Str.ofString "__eq__") [b]) (ifBound_K X I hs hf (wpAny_mono h (fun v s' hv => ?_) fun _ _ e => e))
  cases v <;> first | exact hv.elim | skip
  refine wpAny_bind (m := truthy (.bool _)) (wpAny_truthy_bool ?_)
  exact wpAny_pure hv
theorem ifBound_ne {M : Model} {args : List Value} {Q : Option Value → Shared → Prop} (X : K.In s.heap) (I : InstAt s.heap x ox C od) (hs : findIn K (.ref C) "__ne__" = some (some (.builtin "object.__ne__")))
    (h : wpAny M A (call (.builtin "object.__ne__") (.ref x :: args)) (fun v => Q (some v)) E s) : wpAny M A (callSpecialIfBound? (.ref x) "__ne__" args) Q E s := by
  simp only [callSpecialIfBound?, bindSpecialIfBound?]
  refine wpAny_holding (wpAny_bind (wpAny_bind (wpAny_bind (I.type.here ((looks_findIn X hs).here ?_)))))
  refine wpAny_bind (wpAny_askSetting (wpAny_ite ?_))
  have fin : wpAny M A (call (.builtin "object.__ne__") ([.ref x] ++ args) >>= fun v => pure (some v)) Q E s := wpAny_bind (wpAny_mono h (fun v s' h' => wpAny_pure h') fun _ _ h' => h')
  have bd : bindSpecial (.builtin "object.__ne__") (.ref x) = pure (.builtin "object.__ne__", [.ref x]) := PySem.F.cmp_object.ne.bind _
  split
  · exact wpAny_bind (by rw [bd]; exact wpAny_pure (wpAny_pure (by exact fin)))
  · exact wpAny_tryCatch (wpAny_bind (by rw [bd]; exact wpAny_pure (wpAny_pure (by exact fin))))
theorem ne_K {Q : Value → Shared → Prop} (hu : A.units + 1 < cLine) (F : Fr h₀ L s.heap m) (X₀ : K.In h₀) (I : InstAt s.heap x ox C od) (hb : Looks (model prog w) s.heap (typeOf b) tb) (hn : notFirst K C tb = true) (hne : findIn K (.ref C) "__ne__" = some (some (.builtin "object.__ne__")))
    (hs : findIn K (.ref C) "__eq__" = some (some (.ref f))) (hf : isFn K (.ref f) = true) (hm : mroIn K C (.type "object") = some true)
    (h : wpAny (model prog w) A.in1 (call (.ref f) [.ref x, b]) (NotBack Q) E s) : wpAny (model prog w) A (richCompare .NotEq (.ref x) b) Q E s := by
  have X := X₀.keeps F.keep
  have one : wpAny (model prog w) A (tryCompare (.ref x) (cmpInfo .NotEq).2.1 b) (fun r s' => ∃ v, r = some v ∧ Q v s') E s := by
    unfold tryCompare
    refine wpAny_bind (ifBound_ne X I hne (callNe_K hu X I hs hf hm (wpAny_mono h (fun v s' hv => ?_) fun _ _ e => e)))
    cases v <;> first | exact hv.elim | exact wpAny_pure ⟨_, rfl, hv⟩
  unfold richCompare
  simp only [oneThing_ref]
  refine wpAny_holding (wpAny_bind (wpAny_cRoomFor (Nat.lt_of_succ_lt hu) ?_))
  refine wpAny_bind (I.type.here (wpAny_bind (hb.here ?_)))
  split
  · rename_i q
    have e : subIn K tb (.ref C) = some false := by
      rcases Bool.or_eq_true_iff.mp hn with e | e
      · rw [beq_iff_eq.mp e] at q; simp at q
      · exact beq_iff_eq.mp e
    refine wpAny_bind ((looks_subIn X e).here ?_)
    simp only [Bool.false_eq_true, if_false]
    refine wpAny_bind (wpAny_mono one (fun r s' z => ?_) fun _ _ e => e)
    obtain ⟨v, rfl, hq⟩ := z
    exact wpAny_pure hq
  · refine wpAny_bind (wpAny_pure ?_)
    simp only [Bool.false_eq_true, if_false]
    refine wpAny_bind (wpAny_mono one (fun r s' z => ?_) fun _ _ e => e)
    obtain ⟨v, rfl, hq⟩ := z
    exact wpAny_pure hq
end
end S2
open PySem PySem.Spec PyProof.Rows L2
section
variable {X : Cx} {W : WX} {pos p apos : Pos} {σ : L2.St} {F H F0 H0 : Hp} {g g0 : Gm} {a b e o : Expr} {es : List Expr} {ta tb : TE} {ma mb : M Hd} {fa : Addr} {k : Nat}
/-- what x != y asks of the class -/
structure NeK (K : Frag) (C : Addr) : Prop where
  ne : PySem.W.findIn K (.ref C) "__ne__" = some (some (.builtin "object.__ne__"))
  mro : PySem.W.mroIn K C (.type "object") = some true
def tNe (c : Nat) : Frag → Bool := fun K => He.eqO (PySem.W.findIn K (.ref (ca K c)) "__ne__") (some (some (.builtin "object.__ne__"))) && decide (PySem.W.mroIn K (ca K c) (.type "object") = some true)
theorem neK_ok {K : Frag} {c : Nat} (h : tNe c K = true) : NeK K (ca K c) := by
  obtain ⟨h1, h2⟩ := He.ba h
  exact ⟨He.eqO_ok h1, of_decide_eq_true h2⟩
def dNotB : D → M D
  | .bl b => M.ret (.bl (!b))
  | _ => M.fail
end
end Cq

set_option Elab.async false
set_option linter.all false
set_option maxRecDepth 100000
namespace Cq
namespace S3
open PySem PySem.W PySem.Calls PyProof.Rows Builtin
/-! ### v == x, v of a built-in type, x an instance with an own __eq__: the left side declines -/
section
variable {prog : Program} {w : World} {A : Around} {E : Value → Shared → Prop} {s : Shared} {K : Frag} {x C L f : Addr} {h₀ : Heap} {m : Str → Option Value} {ox : Obj} {od : Option Obj} {b tb : Value} {Q : Option Value → Shared → Prop}
end
end S3
end Cq

set_option Elab.async false
set_option linter.all false
set_option maxRecDepth 100000
namespace Cq
namespace S3
open PySem PySem.W PySem.Calls PyProof.Rows Builtin
section
variable {prog : Program} {w : World} {A : Around} {E : Value → Shared → Prop} {s : Shared} {K : Frag} {x C L f : Addr} {h₀ : Heap} {m : Str → Option Value} {ox : Obj} {od : Option Obj} {b tb : Value}
end
end S3
open PySem PySem.Spec PyProof.Rows L2
section
variable {X : Cx} {W : WX} {pos p apos : Pos} {σ : L2.St} {F H F0 H0 : Hp} {g g0 : Gm} {a b e o : Expr} {es : List Expr} {ta tb : TE} {ma mb : M Hd} {fa : Addr} {k : Nat}
/-! ### comparisons of instances: as a value (se_ofC) and as a condition (sb_ofC) -/
def SC (X : Cx) (W : WX) (op : CmpOp) (a b : Expr) (m : M D) : Prop := PC X op a b (tG X.K W (relE X.K) m)
theorem se_ofC {op : CmpOp} {m : M D} (h : SC X W op a b m) (hm : behindInMarks op b = false) : SE X W (.Compare a [op] [b] pos) m := pe_cmp h hm
theorem sb_ofC {op : CmpOp} {m : M D} (h : SC X W op a b m) (hm : behindInMarks op b = false) : SB X W (.Compare a [op] [b] pos) (m.bind dBool) := PT_imp (pt_cmp h hm) fun _ _ _ q => tTest_ok q
theorem PC_imp {op : CmpOp} {t t' : TE} (h : PC X op a b t) (i : ∀ σ H Q, t' σ H Q → t σ H Q) : PC X op a b t' := ⟨fun pins s σ H Q I q => h.run pins s σ H Q I (i _ _ _ q)⟩
theorem pc_ineA {c : Nat} {sp : Sp} (ha : PE X a ta) (hb : PE X b tb) (hu : X.A.units + 64 < cLine) (hm : Meth X.K (ca X.K c) "__eq__" fa) (hne : NeK X.K (ca X.K c)) (C : FnR X.prog X.w X.K X.mg X.base (L2.CX X.prog X.w) k fa sp) (hr : Room (k + 1) X.A) (tk : Takes X W) :
    PC X .NotEq a b (fun σ H Q => ta σ H fun x H1 => tb σ H1 fun y H2 => InA X.K c x y H2 ∧ sp [x, y] H2 (fun v H3 => ∃ r : Bool, v = .bl r ∧ Q (.bl (!r)) H3) (WE W σ)) := by
  refine ⟨fun pins s σ H Q I h => binT ha hb I h fun v u s2 x y H2 I2 rx ry q => ?_⟩
  obtain ⟨⟨⟨a, dx, fs, rfl, ha⟩, hy⟩, q⟩ := q
  cases rx
  show wpAny _ _ (richCompare .NotEq _ _) _ _ _
  obtain ⟨mA, J, _⟩ := ins_get I2.hok ha
  obtain ⟨od, J, _⟩ := J.look
  obtain ⟨m, hF⟩ := I2.fr
  have back : ∀ {us : List Value}, Vals [.ref a, y] us → wpAny (model X.prog X.w) X.A.in1 (call (.ref fa) us) (S2.NotBack (EP X pins σ Q)) X.xe s2 := fun {us} r =>
    wpAny_mono (codB1 C hr tk I2 r q) (fun v s' z => by
      obtain ⟨y, H3, I3, r3, b, rfl, q3⟩ := z
      cases r3
      exact ⟨.bl (!b), H3, I3, rfl, q3⟩) fun _ _ z => z
  rcases hy with ⟨b, dy, gs, rfl, hb⟩ | ⟨T, hT, ty⟩
  · cases ry
    obtain ⟨mB, J', _⟩ := ins_get I2.hok hb
    obtain ⟨od', J', _⟩ := J'.look
    exact S2.ne_K (tb := .ref (ca X.K c)) (by omega) hF I2.ok.mod.kin J J'.type (by simp [PySem.W.notFirst]) hne.ne hm.at_ hm.fn hne.mro (back (.cons rfl (.cons rfl .nil)))
  · obtain ⟨P, kit, hP, _⟩ := kit_of I2 ry ty
    have X2 := I2.ok.mod.kin.keeps hF.keep
    exact S2.ne_K (tb := .type T) (by omega) hF I2.ok.mod.kin J (kit.ty _ _ X2 hP) (notFirst_T _ _ T hT) hne.ne hm.at_ hm.fn hne.mro (back (.cons rfl (.cons ry .nil)))
theorem sc_ineA {c : Nat} {ms : List Md} {f : Fn} (ha : SO X W a ma) (hb : SO X W b mb) (hu : X.A.units + 64 < cLine) (hm : Meth X.K (ca X.K c) "__eq__" fa) (hne : NeK X.K (ca X.K c)) (C : FnR X.prog X.w X.K X.mg X.base (L2.CX X.prog X.w) k fa (spF X.K ms f)) (hr : Room (k + 1) X.A) (tk : Takes X W) :
    SC X W .NotEq a b (mIopA c (fun h h' => (mCallF ms f [h, h']).bind dNotB) ma mb) :=
  PC_imp (pc_ineA ha hb hu hm hne C hr tk) fun σ H Q q => by
    obtain ⟨F, g, S, q⟩ := q
    exact iopA_ok (P := fun x y H2 => spF X.K ms f [x, y] H2 (fun v H3 => ∃ r : Bool, v = .bl r ∧ Q (.bl (!r)) H3) (WE W σ)) (fun S P r q => callF_ok S Stp.refl r (Pst_bind P q fun d v F2 H2 g2 S2 P2 P02 r2 q4 => by
      cases d with
      | bl b =>
        have r2 : Rep X.K F2 v (.bl b) := r2
        cases r2
        exact ⟨b, rfl, q4 _ F2 H2 S2 P02 (.bl _)⟩
      | _ => exact q4.elim)) S q
end
end Cq

set_option Elab.async false
set_option linter.all false
set_option maxRecDepth 100000
namespace Cq
open PySem PySem.Spec PyProof.Rows L2
section
variable {X : Cx} {W : WX} {pos p apos : Pos} {σ : L2.St} {F H F0 H0 : Hp} {g g0 : Gm} {a b e o : Expr} {es : List Expr} {ta tb : TE} {ma mb : M Hd} {fa : Addr} {k : Nat}
/-! ### v == x: v of a built-in type, x an instance -/
end
end Cq

set_option Elab.async false
set_option linter.all false
set_option maxRecDepth 100000
namespace Cq
open PySem PySem.Spec PyProof.Rows L2
/-! ### str.replace of two written texts, behind an item that has put a token out -/
section
variable {X : Cx} {W : WX} {pos p p' c0 c1 apos : Pos} {σ : L2.St} {F H F0 H0 : Hp} {g g0 : Gm} {a b e o : Expr} {es : List Expr} {te ta : TE} {tA : TA} {ma mo : M Hd} {mr : M (List Hd)} {j k : Nat} {y z : Str}
/-! ### list(text) -/
end
end Cq

set_option Elab.async false
set_option linter.all false
set_option maxRecDepth 100000
namespace Cq
open PySem PySem.Spec PyProof.Rows L2
/-! ### tokens through statements -/
section
variable {X : Cx} {W : WX} {pos p p' c0 c1 apos cpos : Pos} {σ : L2.St} {F H F0 H0 : Hp} {g g0 : Gm} {a b e o : Expr} {es : List Expr} {te ta tb : TE} {tA : TA} {ma mb mo : M Hd} {mr : M (List Hd)} {j k : Nat} {x y z : Str}
/-! ### with meanings -/
end
end Cq

set_option Elab.async false
set_option linter.all false
set_option maxRecDepth 100000
namespace Cq
open PySem PySem.Spec PyProof.Rows L2
section
variable {X : Cx} {W : WX} {pos p apos : Pos} {σ : L2.St} {F H F0 H0 : Hp} {g g0 : Gm} {a e : Expr} {es : List Expr} {te : TE} {tA : TA} {ma : M Hd} {fa : Addr} {k : Nat}
/-! ### text[::-1] -/
/-! ### text * int -/
/-! ### repr of data or of an instance -/
end
end Cq

set_option Elab.async false
set_option linter.all false
set_option maxRecDepth 100000
namespace Cq
open PySem PySem.Spec PyProof.Rows L2
section
variable {X : Cx} {W : WX} {pos : Pos} {σ : L2.St} {F H F0 H0 : Hp} {g g0 : Gm} {e : Expr} {p q : M D}
/-! ### while, at most n laps -/
/-! ### x, y = two new cells -/
/-! ### list(range(n)) -/
/-! ### l.pop(i) -/
/-! ### l.index(x) -/
end
end Cq

set_option Elab.async false
set_option linter.all false
set_option maxRecDepth 100000
namespace Cq
open PySem PySem.Spec PyProof.Rows L2
section
variable {X : Cx} {W : WX} {pos p : Pos} {σ : L2.St} {F H F0 H0 : Hp} {g g0 : Gm} {a b : Expr} {ma mb : M Hd}
/-! ### dicts of ints and texts, as data -/
def KRk (K : Frag) (F : Hp) (kv : List (Key × V)) (ds : List (Key × D)) : Prop := Paired (fun p q => p.1 = q.1 ∧ Rep K F p.2 q.2) kv ds
theorem KRk.keys {K : Frag} {kv : List (Key × V)} {ds : List (Key × D)} (r : KRk K F kv ds) : kv.map (·.1) = ds.map (·.1) := by
  unfold KRk at r
  induction r with
  | nil => rfl
  | cons h t ih => rw [List.map_cons, List.map_cons, ih, h.1]
theorem KRk.vals {K : Frag} {kv : List (Key × V)} {ds : List (Key × D)} (r : KRk K F kv ds) : Reps K F (kv.map (·.2)) (ds.map (·.2)) := by
  unfold KRk at r
  induction r with
  | nil => exact .nil
  | cons h t ih => exact .cons h.2 ih
theorem KRk.of {K : Frag} : ∀ {kv : List (Key × V)} {ds : List (Key × D)}, kv.map (·.1) = ds.map (·.1) → Reps K F (kv.map (·.2)) (ds.map (·.2)) → KRk K F kv ds
  | [], [], _, _ => .nil
  | [], _ :: _, h, _ => by simp at h
  | _ :: _, [], h, _ => by simp at h
  | p :: kv, q :: ds, h, r => by
    rw [List.map_cons, List.map_cons] at h r
    injection h with h1 h2
    cases r with
    | cons r t => exact .cons ⟨h1, r⟩ (KRk.of h2 t)
theorem KRk.length {K : Frag} {kv : List (Key × V)} {ds : List (Key × D)} (r : KRk K F kv ds) : kv.length = ds.length := Paired.length r
/-- d[k] = v on data -/
def putDk (kvs : List (Key × D)) (k : Key) (v : D) : List (Key × D) :=
  if (kvs.any fun kv => decide (kv.1 = k)) = true then kvs.map (fun kv => if kv.1 = k then (kv.1, v) else kv) else kvs ++ [(k, v)]
def getDk (kvs : List (Key × D)) (k : Key) : Option D := (kvs.find? fun kv => decide (kv.1 = k)).map (·.2)
theorem KRk.any {K : Frag} {kv : List (Key × V)} {ds : List (Key × D)} (r : KRk K F kv ds) (k : Key) : (kv.any fun kv => decide (kv.1 = k)) = ds.any fun kv => decide (kv.1 = k) := by
  unfold KRk at r
  induction r with
  | nil => rfl
  | cons h t ih => rw [List.any_cons, List.any_cons, ih, h.1]
theorem KRk.put {K : Frag} {kv : List (Key × V)} {ds : List (Key × D)} (r : KRk K F kv ds) (k : Key) {v : V} {d : D} (rv : Rep K F v d) : KRk K F (putK kv k v) (putDk ds k d) := by
  unfold putK putDk
  rw [r.any k]
  by_cases q : (ds.any fun kv => decide (kv.1 = k)) = true
  · rw [if_pos q, if_pos q]
    unfold KRk at r ⊢
    clear q
    induction r with
    | nil => exact .nil
    | @cons p q ps qs h t ih =>
      rw [List.map_cons, List.map_cons]
      refine .cons ?_ ih
      by_cases z : p.1 = k
      · rw [if_pos z, if_pos (h.1.symm.trans z)]; exact ⟨h.1, rv⟩
      · rw [if_neg z, if_neg (fun y => z (h.1.trans y))]; exact h
  · rw [if_neg q, if_neg q]; exact Paired.snoc r ⟨rfl, rv⟩
theorem KRk.get {K : Frag} {kv : List (Key × V)} {ds : List (Key × D)} (r : KRk K F kv ds) (k : Key) {v0 : V} {d0 : D} (r0 : Rep K F v0 d0) : Rep K F ((valV kv k).getD v0) ((getDk ds k).getD d0) := by
  unfold KRk at r
  induction r with
  | nil => exact r0
  | @cons p q ps qs h t ih =>
    by_cases z : p.1 = k
    · have : getDk (q :: qs) k = some q.2 := by simp [getDk, List.find?_cons, h.1.symm.trans z]
      rw [valV_pos z, this]; exact h.2
    · have z' : ¬ q.1 = k := fun y => z (h.1.trans y)
      have : getDk (q :: qs) k = getDk qs k := by simp [getDk, List.find?_cons, z']
      rw [valV_neg z, this]; exact ih
theorem KRk.sm {K : Frag} {kv : List (Key × V)} {ds : List (Key × D)} (r : KRk K F kv ds) (k : Key) : (valV kv k).isSome = (getDk ds k).isSome := by
  unfold KRk at r
  induction r with
  | nil => rfl
  | @cons p q ps qs h t ih =>
    by_cases z : p.1 = k
    · have : getDk (q :: qs) k = some q.2 := by simp [getDk, List.find?_cons, h.1.symm.trans z]
      rw [valV_pos z, this]; rfl
    · have z' : ¬ q.1 = k := fun y => z (h.1.trans y)
      have : getDk (q :: qs) k = getDk qs k := by simp [getDk, List.find?_cons, z']
      rw [valV_neg z, this]; exact ih
theorem KRk.at {K : Frag} {kv : List (Key × V)} {ds : List (Key × D)} (r : KRk K F kv ds) {k : Key} {d : D} (h : getDk ds k = some d) : ∃ v, valV kv k = some v ∧ Rep K F v d := by
  unfold KRk at r
  induction r with
  | nil => cases h
  | @cons p q ps qs h' t ih =>
    by_cases z : p.1 = k
    · have : getDk (q :: qs) k = some q.2 := by simp [getDk, List.find?_cons, h'.1.symm.trans z]
      rw [this] at h; cases h
      exact ⟨p.2, valV_pos z, h'.2⟩
    · have z' : ¬ q.1 = k := fun y => z (h'.1.trans y)
      have : getDk (q :: qs) k = getDk qs k := by simp [getDk, List.find?_cons, z']
      rw [this] at h
      obtain ⟨v, e1, e2⟩ := ih h
      exact ⟨v, by rw [valV_neg z]; exact e1, e2⟩
theorem RoV.dik {K : Frag} {v : V} {ds : List (Key × D)} (s : Sub F H) (r : RoV K F H v (.dik ds)) : ∃ a kv, v = .ref a ∧ H a = some (.dK kv) ∧ KRk K F kv ds := by
  rcases r with r | ⟨a, rfl, ⟨kv, h, h2, h3⟩, _⟩
  · cases r with
    | dik h h2 h3 => exact ⟨_, _, rfl, s _ _ h, KRk.of h2 h3⟩
  · exact ⟨_, _, rfl, h, KRk.of h2 h3⟩
/-! ### k in d, d[k], d[k] = v, len(d) -/
end
end Cq

set_option Elab.async false
set_option linter.all false
set_option maxRecDepth 100000
namespace Cq
open PySem PySem.Spec PyProof.Rows L2
section
variable {X : Cx} {W : WX} {pos p : Pos} {σ : L2.St} {F H F0 H0 : Hp} {g g0 : Gm} {e : Expr} {m : M D}
/-! ### min of a list of alike data -/
mutual
def ofPy : PyData → D
  | .none => .non
  | .bool b => .bl b
  | .int i => .int i
  | .str x => .str x
  | .tuple xs => .tup (ofPys xs)
  | .list xs => .lst (ofPys xs)
  | .dict _ => .non
def ofPys : List PyData → List D
  | [] => []
  | x :: xs => ofPy x :: ofPys xs
end
mutual
theorem ofPy_py : ∀ {d : D} {p : PyData}, d.py = some p → d = ofPy p
  | .non, _, h => by simp only [D.py] at h; cases h; rfl
  | .bl b, _, h => by simp only [D.py] at h; cases h; rfl
  | .int i, _, h => by simp only [D.py] at h; cases h; rfl
  | .str x, _, h => by simp only [D.py] at h; cases h; rfl
  | .tup xs, _, h => by
    simp only [D.py] at h
    cases q : pyL xs with
    | none => rw [q] at h; cases h
    | some ps => rw [q] at h; cases h; simp only [ofPy, ← ofPys_py q]
  | .lst xs, _, h => by
    simp only [D.py] at h
    cases q : pyL xs with
    | none => rw [q] at h; cases h
    | some ps => rw [q] at h; cases h; simp only [ofPy, ← ofPys_py q]
  | .dik _, _, h => by simp [D.py] at h
  | .dit _, _, h => by simp [D.py] at h
  | .ins _ _, _, h => by simp [D.py] at h
  | .scr _, _, h => by simp [D.py] at h
  | .glo _, _, h => by simp [D.py] at h
  | .ktp _, _, h => by simp [D.py] at h
theorem ofPys_py : ∀ {ds : List D} {ps : List PyData}, pyL ds = some ps → ds = ofPys ps
  | [], _, h => by simp only [pyL] at h; cases h; rfl
  | d :: ds, _, h => by
    simp only [pyL] at h
    cases q : d.py with
    | none => rw [q] at h; cases h
    | some p => cases q2 : pyL ds with
      | none => rw [q, q2] at h; cases h
      | some ps => rw [q, q2] at h; cases h; rw [ofPys, ← ofPy_py q, ← ofPys_py q2]
end
/-! ### for i, x in enumerate(l) -/
end
end Cq

set_option Elab.async false
set_option linter.all false
set_option maxRecDepth 100000
set_option maxHeartbeats 2000000
namespace Cq
open PySem PySem.Spec PyProof.Rows L2
/-! ### a sequence of either kind -/
def IsX : Bool → Heap → Addr → Array Value → Prop
  | true, h, a, xs => h.IsTuple a xs
  | false, h, a, xs => h.IsList a xs
def ItX : Bool → Heap → Addr → Addr → Nat → Prop
  | true, h, i, l, n => h.IsTupleIter i l n
  | false, h, i, l, n => h.IsListIter i l n
theorem IsX.lt {k : Bool} {h : Heap} {a : Addr} {xs : Array Value} (p : IsX k h a xs) : a < h.objs.size := by
  cases k with
  | true => obtain ⟨o, e, _⟩ := (show h.IsTuple a xs from p); exact Heap.lt_size e
  | false => obtain ⟨o, e, _⟩ := (show h.IsList a xs from p); exact Heap.lt_size e
theorem ItX.obj {k : Bool} {h : Heap} {i l : Addr} {n : Nat} (p : ItX k h i l n) : ∃ o, h.get? i = some o ∧ ∀ v, o.data ≠ .cell v := by
  cases k with
  | true => obtain ⟨o, e, _, d⟩ := (show h.IsTupleIter i l n from p); exact ⟨o, e, fun v q => by rw [d] at q; cases q⟩
  | false => obtain ⟨o, e, _, d⟩ := (show h.IsListIter i l n from p); exact ⟨o, e, fun v q => by rw [d] at q; cases q⟩
theorem ItX.at {k : Bool} {h h' : Heap} {i l : Addr} {n : Nat} (p : ItX k h i l n) (e : ∀ o, h.get? i = some o → h'.get? i = some o) : ItX k h' i l n := by
  cases k with
  | true => exact Heap.IsTupleIter.at (show h.IsTupleIter i l n from p) e
  | false => exact Heap.IsListIter.at (show h.IsListIter i l n from p) e
/-! ### on data -/
end Cq

set_option Elab.async false
set_option linter.all false
set_option maxRecDepth 100000
namespace Cq
open PySem PySem.Spec PyProof.Rows L2
section
variable {X : Cx} {W : WX} {pos p : Pos} {σ : L2.St} {F H F0 H0 : Hp} {g g0 : Gm} {a b : Expr} {ma mb : M Hd}
/-! ### {}, to hold tuple keys -/
/-! ### a written tuple that is to be a key -/
/-! ### dict(d) -/
/-! ### d.get(k, x), d a dict of one's own -/
/-! ### d.get(k, x), d frozen -/
end
end Cq

set_option Elab.async false
set_option linter.all false
set_option maxRecDepth 100000
namespace Cq
open PySem PySem.Spec PyProof.Rows L2
section
variable {X : Cx} {W : WX} {pos p apos : Pos} {σ : L2.St} {F H F0 H0 : Hp} {g g0 : Gm} {a b e o : Expr} {es : List Expr} {ta tb te : TE} {tA : TA} {ma mb me : M Hd} {fa : Addr} {k : Nat}
/-! ### x(..) by an instance's own __call__ -/
end
end Cq

set_option Elab.async false
set_option linter.all false
set_option maxRecDepth 100000
set_option maxHeartbeats 1000000
namespace Cq
open PySem PySem.Spec PyProof.Rows L2
/-! ### tuples of whole numbers by their code -/
def cd (ns : List Int) : Int := TS.code 100 ns
/-! ### sorted(set(xs)), xs tuples of whole numbers -/
section
variable {X : Cx} {W : WX} {pos : Pos} {σ : L2.St} {F H F0 H0 : Hp} {g g0 : Gm} {a : Expr} {ta : TE}
end
end Cq

set_option Elab.async false
set_option linter.all false
set_option maxRecDepth 100000
set_option maxHeartbeats 1000000
namespace Cq
open PySem PySem.Spec PyProof.Rows L2 HT
/-! ### t[::-1] of a tuple -/
section
variable {prog : Program} {w : World} {A : Around} {E : Value → Shared → Prop} {s : Shared}
end
section
variable {X : Cx} {W : WX} {pos p apos : Pos} {σ : L2.St} {F H F0 H0 : Hp} {g g0 : Gm} {a e : Expr} {es : List Expr} {te : TE} {ma : M Hd}
/-! ### tuple * int -/
end
end Cq

set_option Elab.async false
set_option linter.all false
set_option maxRecDepth 100000
set_option maxHeartbeats 1000000
/-! for in a generator's body -/
namespace L2
open PySem PySem.Spec PyProof.Rows GenW
section
variable {prog : Program} {w : World} {A : Around} {R : GenEnd} {Y : Protocol} {n : Nat} {s₀ : Shared} {fs : List Frame} {s : Shared} {env : Env}
end
section
variable {X : Cx}
end
end L2

set_option Elab.async false
set_option linter.all false
set_option maxRecDepth 100000
set_option maxHeartbeats 1000000
namespace Cq
open PySem PySem.Spec PyProof.Rows L2 GenW
/-! ### what a generator's body hands out -/
section
variable {X : Cx} {W : WX} {pos : Pos} {σ : L2.St} {F H F0 H0 : Hp} {g g0 : Gm}
end
/-! ### a generator def's promise -/
section
variable {P : Program} {w : World} {K : Frag} {mg : Str → Option Value} {base : Heap} {x qual : Str} {params : Arguments} {body : List Stmt} {scope : Scope} {f : Addr} {fd : FuncData}
end
/-! ### list(g(..)) -/
section
variable {X : Cx} {pos pos' p p2 : Pos} {σ : L2.St} {e : Expr} {es : List Expr} {x : Str} {f : Addr} {E : XK}
end
end Cq

set_option Elab.async false
set_option linter.all false
set_option maxRecDepth 100000
set_option maxHeartbeats 2000000
/-! dict(zip(a, b)): a, b lists or tuples -/
namespace Cq
open PySem PySem.Spec PyProof.Rows L2
section
variable {prog : Program} {w : World} {A : Around} {E : Value → Shared → Prop} {s : Shared}
theorem IsX.at {k : Bool} {h h' : Heap} {a : Addr} {xs : Array Value} (p : IsX k h a xs) (e : ∀ o, h.get? a = some o → h'.get? a = some o) : IsX k h' a xs := by
  cases k with
  | true => exact Heap.IsTuple.at (show h.IsTuple a xs from p) e
  | false => exact Heap.IsList.at (show h.IsList a xs from p) e
end
theorem IsX.obj {k : Bool} {h : Heap} {a : Addr} {xs : Array Value} (p : IsX k h a xs) : ∃ o, h.get? a = some o := by
  cases k with
  | true => obtain ⟨o, e, _⟩ := (show h.IsTuple a xs from p); exact ⟨o, e⟩
  | false => obtain ⟨o, e, _⟩ := (show h.IsList a xs from p); exact ⟨o, e⟩
/-! ### on data -/
section
variable {X : Cx}
variable {W : WX}
end
end Cq

set_option Elab.async false
set_option linter.all false
set_option maxRecDepth 100000
/-! len(set(x)), x a list or a tuple of ints -/
namespace Cq
open PySem PySem.Spec PyProof.Rows L2
section
variable {X : Cx} {W : WX} {pos : Pos} {σ : L2.St} {F H F0 H0 : Hp} {g g0 : Gm} {a : Expr} {ta : TE}
end
end Cq

set_option Elab.async false
set_option linter.all false
set_option maxRecDepth 100000
set_option maxHeartbeats 2000000
namespace Cq
open PySem PySem.Spec PyProof.Rows L2 LamX
/-! ### frozen slots alone -/
def imS : Sl → Sl
  | .im d => .im d
  | _ => .un
def imO (g : Gm) : Gm := g.map imS
theorem imO_get (g : Gm) (i : Nat) : (imO g)[i]? = (g[i]?).map imS := by unfold imO; rw [List.getElem?_map]
theorem imO_cell (g : Gm) (i : Nat) : ((imO g)[i]?).bind Sl.cell = none := by
  rw [imO_get]
  cases g[i]? with
  | none => rfl
  | some s => cases s <;> rfl
theorem imO_own {g : Gm} {σ : L2.St} {H : Hp} {x : Addr} : ¬ Own (imO g) σ H x := fun ⟨i, d, a, c, _⟩ => by rw [imO_cell] at c; cases c
theorem imO_idem (g : Gm) : imO (imO g) = imO g := by
  unfold imO
  rw [List.map_map]
  refine List.map_congr_left fun s _ => ?_
  cases s <;> rfl
theorem Sta.imO {K : Frag} {F F' H H' : Hp} {g : Gm} {σ : L2.St} (S : Sta K F g σ H) (s : Sub F F') (t : Sub F' H') (tb : TB K F' H') : Sta K F' (imO g) σ H' := by
  refine ⟨t, by rw [← S.len]; unfold Cq.imO; rw [List.length_map], fun i u e => ?_, fun i j d e a b x ij c1 => ?_, fun i d a e1 => ?_, tb⟩
  · rw [imO_get] at e
    cases q : g[i]? with
    | none => rw [q] at e; cases e
    | some w =>
      rw [q] at e
      have k := S.slot i w q
      cases w with
      | im d => cases e; obtain ⟨v, e1, r⟩ := k; exact ⟨v, e1, r.mono s⟩
      | _ => cases e; trivial
  · rw [imO_cell] at c1; cases c1
  · rw [imO_get] at e1
    cases q : g[i]? with
    | none => rw [q] at e1; cases e1
    | some w => rw [q] at e1; cases w <;> cases e1
theorem Sta.none0 {K : Frag} {F H : Hp} {g : Gm} {σ : L2.St} (S : Sta K F g σ H) : Sta K F [] [] H := by
  refine ⟨S.sub, rfl, fun i s e => ?_, fun i j d e a b x ij c1 => ?_, fun i d a e => ?_, S.tb⟩
  · simp at e
  · simp at c1
  · simp at e
theorem Stp.none0 {F H F' H' : Hp} {g g' : Gm} {σ σ' : L2.St} (P : Stp F H (Cq.imO g) σ F' H' g' σ') : Stp F H [] [] F' H' [] [] := by
  refine ⟨P.fg, P.st, fun x o h nb n _ => P.fr x o h nb n imO_own, fun x ⟨i, d, a, c, _⟩ => ?_, fun i d e => ?_, fun i d e => ?_, P.ki⟩
  · simp at c
  · simp at e
  · simp at e
/-! ### what the call a() promises -/
def tAct (K : Frag) (fl : Addr) (F0 : Hp) (r : Option Nat) (d : D) (W : WX) : L2.TE := fun σ H Q => ∃ F, Sub F0 F ∧ Sub F H ∧ TB K F H ∧ σ[0]? = some (some (V.ref fl)) ∧
  ∀ F' H', Sta K F' [] [] H' → Stp F H [] [] F' H' [] [] → match r with
    | none => ∀ v, Rep K F' v d → Q v H'
    | some c => W (exv K c) none σ H'
def Act (Z : Cx) (a : Str) (fl : Addr) (F0 : Hp) (r : Option Nat) (d : D) : Prop := ∀ (W : WX) (pn : List (Addr × Obj)) (xe : Value → Shared → Prop) (p1 p2 : Pos), Takes (Z.tr pn xe) W → PE (Z.tr pn xe) (.Call (.Name a p1) [] [] p2) (tAct Z.K fl F0 r d W)
open Classical in
noncomputable def mAct (fl : Addr) (F0 : Hp) (r : Option Nat) (d : D) : M D := fun g => if g[0]? = some (.im (.lam fl F0 r d)) then (match r with
  | none => some (.ok d g)
  | some c => some (.ex c g)) else none
theorem mAct_ok {fl : Addr} {F0 : Hp} {d : D} {g : Gm} : mAct fl F0 none d (.im (.lam fl F0 none d) :: g) = some (.ok d (.im (.lam fl F0 none d) :: g)) := if_pos (by rfl)
theorem mAct_ex {fl : Addr} {F0 : Hp} {c : Nat} {d : D} {g : Gm} : mAct fl F0 (some c) d (.im (.lam fl F0 (some c) d) :: g) = some (.ex c (.im (.lam fl F0 (some c) d) :: g)) := if_pos (by rfl)
theorem se_act {Z : Cx} {W : WX} {a : Str} {fl : Addr} {F0 : Hp} {r : Option Nat} {d : D} {pn : List (Addr × Obj)} {xe : Value → Shared → Prop} {p1 p2 : Pos} (hA : Act Z a fl F0 r d) (tk : Takes (Z.tr pn xe) W) : SE (Z.tr pn xe) W (.Call (.Name a p1) [] [] p2) (mAct fl F0 r d) :=
  PE_imp (hA W pn xe p1 p2 tk) fun σ H Q q => by
    obtain ⟨F, g, S, q⟩ := q
    unfold mAct at q
    by_cases h : g[0]? = some (.im (.lam fl F0 r d))
    · rw [if_pos h] at q
      obtain ⟨v, e, rp⟩ := S.slot 0 _ h
      cases rp with
      | lam sb =>
        refine ⟨F, sb, S.sub, S.tb, e, fun F' H' S' P' => ?_⟩
        obtain ⟨z1, z2, _⟩ := S.called P' S' (fun _ _ => False) (fun _ _ r => r.elim) (fun p d c => by simp at c) (fun _ _ _ r => r.elim) rfl (fun i => .inr ⟨fun _ r => r, rfl⟩)
        cases r with
        | none => exact fun v rv => q v F' H' z1 z2 rv
        | some c => exact q F' H' z1 z2
    · rw [if_neg h] at q; exact q.elim
/-! ### a def that calls the lambda it got -/
def FnL (P : Program) (w : World) (K : Frag) (mg : Str → Option Value) (base : Heap) (k : Nat) (g : Addr) (N : List Str) (x : Str) (sg : Scope) (a : Str) (mm : Addr → Hp → Option Nat → D → M Fl) : Prop :=
  ∀ (A : Around) (outer : List PySem.Env) (s : Shared) (H : Hp) (fl : Addr) (F0 : Hp) (r : Option Nat) (d : D) (Q : VK) (E : XK), Room k A → Env0 P w K mg base A outer s H →
    (∀ cdv : Value, Room (k - 1) (A.deeper (envOfC x sg s.heap.objs.size g cdv)) → Act (cxOf (L2.CX P w) P w K mg base N x sg g cdv A outer s H E) a fl F0 r d) →
    spF K [.im] (runDef [.im] N.length (mm fl F0 r d)) [.ref fl] H Q E →
    codeAny (model P w) A (.call (.ref g) ⟨[.ref fl], []⟩) (CR (L2.CX P w) outer P w H s Q E) s
section
variable {P : Program} {w : World} {K : Frag} {mg : Str → Option Value} {base : Heap} {x qual : Str} {params : Arguments} {body : List Stmt} {scope : Scope} {f : Addr} {fd : FuncData}
theorem fnl {k k' : Nat} (hkk : k ≤ k') {N : List Str} {a : Str} {mm : Addr → Hp → Option Nat → D → M Fl} (F : FunD K x x params body scope [] [] f fd) (S : FnScope N [a] scope)
    (hb : ∀ (kV doc pm : Value) (an : Option Addr) (cdv ct : Value) (us : List Value), us.length = [a].length → bindArgs (PySem.W.fnOf x x params body scope .none kV doc pm an cdv ct) ⟨us, []⟩ = pure ([a].zip us))
    (hbody : ∀ (cdv : Value) (A : Around) (outer : List PySem.Env) (s : Shared) (H : Hp) (E : XK) (fl : Addr) (F0 : Hp) (r : Option Nat) (d : D), Room k (A.deeper (envOfC x scope s.heap.objs.size f cdv)) → Takes (cxOf (L2.CX P w) P w K mg base N x scope f cdv A outer s H E) (wE E) →
      PassesOwn (model P w) (A.deeper (envOfC x scope s.heap.objs.size f cdv)) (envOfC x scope s.heap.objs.size f cdv) (cxOf (L2.CX P w) P w K mg base N x scope f cdv A outer s H E).xe →
      Act (cxOf (L2.CX P w) P w K mg base N x scope f cdv A outer s H E) a fl F0 r d →
      SSs (cxOf (L2.CX P w) P w K mg base N x scope f cdv A outer s H E) (wE E) body (mm fl F0 r d)) :
    FnL P w K mg base (k' + 1) f N x scope a mm := by
  have bnd := F.bindsN hb
  obtain ⟨oc, od, dV, kV, doc, pm, an, cdv, ct, osl, rfl, lk, hcd, _, _⟩ := F.ex
  intro A outer s H fl F0 r d Q E hr e0 hact hsp
  have rv : Vals [V.ref fl] [Value.ref fl] := .cons rfl .nil
  have KX : K.In s.heap := e0.mod.kin.keeps fun b o e => (e0.bs b o e).1
  have lim : s.heap.NoLimit := e0.mod.nolimit.keeps fun b o e => (e0.bs b o e).1
  have hkind : ∀ y ∈ [a].zip [Value.ref fl], scope.names.lookup y.1 = some .local ∨ (scope.names.lookup y.1 = some .cell ∧ ((cellsFrom (s.heap.objs.size + 1) scope.names []).lookup y.1).isSome = true) := fun ⟨n, v⟩ hy => by
    rcases S.par n (List.of_mem_zip hy).1 with q | q
    · exact .inl q
    · exact .inr ⟨q, PySem.W.cellsFrom_some _ _ _ (.inl q)⟩
  have hbd := bnd s [Value.ref fl] KX rfl
  rw [List.append_nil] at hbd
  refine codeAny_call_function hr.depth (KX _ _ lk) rfl S.co S.gen rfl (PySem.W.codeRec_of KX hcd) (hbd _ _ _ _ ?_)
  refine wpAny_newFunctionEnv_cells S.kind hkind fun env he s1 ic => ?_
  subst he
  refine ⟨lim.keeps ic.toInCall.keep, codeAny_func ?_⟩
  have ht := hbody cdv A outer s H E fl F0 r d ((hr.deeper _).mono hkk) (takes_of rfl rfl rfl rfl) (passes_of rfl) (hact cdv (hr.deeper _))
  have hq : tS K (wE E) (mm fl F0 r d) { nx := fun _ H' => Q .non H', rt := Q } (start N [V.ref fl]) H := def_reads (fun _ _ _ z => z) hsp
  have I : Inv (cxOf (L2.CX P w) P w K mg base N x scope f cdv A outer s H E) [] (start N [V.ref fl]) H s1 := inv_start S hr.hd e0 rfl rv ic
  refine wpAny_mono (ht.run [] s1 (start N [V.ref fl]) H _ I hq) (fun fl s' hs => ?_) fun e s' hs => hs
  have fin : ∀ {σ' : L2.St} {H' : Hp} {v : V} {u : Value}, Inv (cxOf (L2.CX P w) P w K mg base N x scope f cdv A outer s H E) [] σ' H' s' → RelV v u → Q v H' → CE outer P w H s Q u s' :=
    fun {σ' H' v u} J rv q => ⟨v, H', J.os, J.bare, J.base, J.hok, rv, q⟩
  cases fl with
  | ret u =>
    obtain ⟨v, σ', H', J, rv, q⟩ := hs
    exact fin J rv q
  | next =>
    obtain ⟨σ', H', J, q⟩ := hs
    exact fin (v := V.non) (u := Value.none) J rfl q
  | brk =>
    obtain ⟨_, _, _, q⟩ := hs
    exact False.elim q
  | cont =>
    obtain ⟨_, _, _, q⟩ := hs
    exact False.elim q
/-! ### a def that makes lambdas: its own code object is known -/
def CodO (K : Frag) (f : Addr) (cdv : Value) : Prop := ∃ oc od fd osl, K.lookup f = some ⟨oc, od, .func fd, osl⟩ ∧ fd.code = cdv ∧ PySem.W.codeIn K cdv fd.qualname = true
theorem fngL {k : Nat} {N ps : List Str} {ms : List Md} {m : M Fl} (F : FunD K x qual params body scope [] [] f fd) (S : FnScope N ps scope) (hl : ms.length = ps.length)
    (hb : ∀ (kV doc pm : Value) (an : Option Addr) (cdv ct : Value) (us : List Value), us.length = ps.length → bindArgs (PySem.W.fnOf x qual params body scope .none kV doc pm an cdv ct) ⟨us, []⟩ = pure (ps.zip us))
    (hbody : ∀ (cdv : Value) (A : Around) (outer : List PySem.Env) (s : Shared) (H : Hp) (E : XK), CodO K f cdv → (A.deeper (envOfC qual scope s.heap.objs.size f cdv)).guards = some [] → Room k (A.deeper (envOfC qual scope s.heap.objs.size f cdv)) → Takes (cxOf (L2.CX P w) P w K mg base N qual scope f cdv A outer s H E) (wE E) →
      PassesOwn (model P w) (A.deeper (envOfC qual scope s.heap.objs.size f cdv)) (envOfC qual scope s.heap.objs.size f cdv) (cxOf (L2.CX P w) P w K mg base N qual scope f cdv A outer s H E).xe →
      SSs (cxOf (L2.CX P w) P w K mg base N qual scope f cdv A outer s H E) (wE E) body m) :
    FnG P w K mg base (L2.CX P w) (k + 1) f (spF K ms (runDef ms N.length m)) := by
  have bnd := F.bindsN hb
  obtain ⟨oc, od, dV, kV, doc, pm, an, cdv, ct, osl, rfl, lk, hcd, _, _⟩ := F.ex
  intro A outer s H us vs Q E gd hr e0 r hsp
  have hl' : vs.length = ps.length := by obtain ⟨_, _, _, l, _⟩ := hsp; exact l.trans hl
  have hul : us.length = ps.length := by rw [← r.length]; exact hl'
  have KX : K.In s.heap := e0.mod.kin.keeps fun b o e => (e0.bs b o e).1
  have lim : s.heap.NoLimit := e0.mod.nolimit.keeps fun b o e => (e0.bs b o e).1
  have hkind : ∀ y ∈ ps.zip us, scope.names.lookup y.1 = some .local ∨ (scope.names.lookup y.1 = some .cell ∧ ((cellsFrom (s.heap.objs.size + 1) scope.names []).lookup y.1).isSome = true) := fun ⟨n, v⟩ hy => by
    rcases S.par n (List.of_mem_zip hy).1 with q | q
    · exact .inl q
    · exact .inr ⟨q, PySem.W.cellsFrom_some _ _ _ (.inl q)⟩
  have hbd := bnd s us KX (by rw [List.append_nil]; exact hul)
  rw [List.append_nil] at hbd
  refine codeAny_call_function hr.depth (KX _ _ lk) rfl S.co S.gen rfl (PySem.W.codeRec_of KX hcd) (hbd _ _ _ _ ?_)
  refine wpAny_newFunctionEnv_cells S.kind hkind fun env he s1 x => ?_
  subst he
  refine ⟨lim.keeps x.toInCall.keep, codeAny_func ?_⟩
  have ht := hbody cdv A outer s H E ⟨_, _, _, _, lk, rfl, hcd⟩ gd (hr.deeper _) (takes_of rfl rfl rfl rfl) (passes_of rfl)
  have hq : tS K (wE E) m { nx := fun _ H' => Q .non H', rt := Q } (start N vs) H := by
    have e : start N vs = vs.map some ++ List.replicate (N.length - ms.length) none := by
      unfold L2.start
      rw [hl', hl]
    rw [e]
    exact def_reads (fun _ _ _ z => z) hsp
  have I : Inv (cxOf (L2.CX P w) P w K mg base N qual scope f cdv A outer s H E) [] (start N vs) H s1 := inv_start S hr.hd e0 hl' r x
  refine wpAny_mono (ht.run [] s1 (start N vs) H _ I hq) (fun fl s' hs => ?_) fun e s' hs => hs
  have fin : ∀ {σ' : L2.St} {H' : Hp} {v : V} {u : Value}, Inv (cxOf (L2.CX P w) P w K mg base N qual scope f cdv A outer s H E) [] σ' H' s' → RelV v u → Q v H' → CE outer P w H s Q u s' :=
    fun {σ' H' v u} J rv q => ⟨v, H', J.os, J.bare, J.base, J.hok, rv, q⟩
  cases fl with
  | ret u =>
    obtain ⟨v, σ', H', J, rv, q⟩ := hs
    exact fin J rv q
  | next =>
    obtain ⟨σ', H', J, q⟩ := hs
    exact fin (v := V.non) (u := Value.none) J rfl q
  | brk =>
    obtain ⟨_, _, _, q⟩ := hs
    exact False.elim q
  | cont =>
    obtain ⟨_, _, _, q⟩ := hs
    exact False.elim q
end
end Cq

set_option Elab.async false
set_option linter.all false
set_option maxRecDepth 100000
set_option maxHeartbeats 2000000
namespace Cq
open PySem PySem.Spec PyProof.Rows L2 LamX
section
variable {X : Cx} {pins : List (Addr × Obj)} {σ : L2.St} {H : Hp} {s : Shared}
/-- the lambda is made: its code object is new, or found in the table; nothing goes -/
theorem lam_made {T : List (Addr × Str)} {c P : Addr} {params : Arguments} {body : Expr} {scope : Scope} {pos : Pos} {E : Value → Shared → Prop} {Q : Value → Shared → Prop} (I : Inv X pins σ H s) (TB : TabB X.base X.mg c P) (hcode : X.env.code = .ref c)
    (hm : (P, X.env.qual ++ "<lambda>") ∈ T) (hu : ∀ p ∈ T, p.1 = P → p.2 = X.env.qual ++ "<lambda>") (hT : Tabs T H) (hdef : defaultsOf params X.env = ([], [])) (hfree : ∀ y ∈ scope.names, y.2 = .free → ∃ c, X.env.cells.lookup y.1 = some c)
    (h : ∀ (f c' : Addr) (pm ctv : Value) (H1 : Hp) (s' : Shared), Inv X pins σ H1 s' → ExtN H H1 → (∀ b, H b ≠ none → H1 b ≠ none) → Tabs T H1 →
      s'.heap.get? f = some (PySem.W.kla_obj "<lambda>" (X.env.qual ++ "<lambda>") params body scope (cloFrom X.env.cells scope.names []) pm c' ctv) → H1 f = none → f ∉ frs X.stack → H1 c' = some (CodeO c' (X.env.qual ++ "<lambda>")) → Q (.ref f) s') :
    wpAny (model X.prog X.w) X.A (eval (.Lambda params body scope pos) X.env) Q E s := by
  obtain ⟨ps, hP, ht, ha⟩ := hT _ hm
  refine PySem.W.kla_eval hdef ?_
  have bP : s.heap.BuiltinsAt X.mg P := TB.bm.keeps I.bk
  have hP' : s.heap.get? P = some { cls := .none, data := .fields ps } := I.hok P _ hP
  have nofr : ∀ f, s.heap.objs.size ≤ f → f ∉ frs X.stack := fun f hf z => by
    rcases List.mem_cons.mp (I.stkSub _ z) with e | e
    · have h1 := I.lt
      rw [← e] at h1
      exact Nat.lt_irrefl _ (Nat.lt_of_lt_of_le h1 hf)
    · exact I.nofs hf e
  cases hc : codeAmong pos ps.toList with
  | none =>
    refine PySem.W.kla_makeFunction (mg := X.mg) (c := c) (P := P) (ps := ps) (closure_ok hfree) I.ok.glob (I.mod.glob.keeps I.bk) hcode (TB.code.keeps I.bk) hP' ht hc TB.gP bP fun c' ctv h' tk hx hge hlt hrec htb => ?_
    obtain ⟨c2, oc, vs, t, e2, hoc, hd, hv⟩ := hrec
    cases e2
    have hsz : s.heap.objs.size ≤ h'.objs.size := Nat.le_trans hge (Nat.le_of_lt hlt)
    have nC : H c' = none := I.hok.fresh hge
    have I1 := inv_table (t' := tk) (more := #[rawInt pos.line, rawInt pos.col, .ref c']) (h' := h'.push (PySem.W.kla_obj "<lambda>" (X.env.qual ++ "<lambda>") params body scope (cloFrom X.env.cells scope.names []) ((X.mg "__name__").getD .none) c' ctv)) I hP
      (fun b o hb e => Heap.get?_push_of_some _ (hx b o hb e)) (Heap.get?_push_of_some _ htb) hge ⟨oc, vs, t, Heap.get?_push_of_some _ hoc, hd, hv⟩
    have hE : ExtN H (upd (upd H P (.tbl (ps ++ #[rawInt pos.line, rawInt pos.col, .ref c']))) c' (CodeO c' (X.env.qual ++ "<lambda>"))) := fun b o e n => by
      rw [upd_ne (ne_of_none e nC), upd_ne (fun z => n ps (Option.some.inj (e.symm.trans (by rw [z]; exact hP))))]
      exact e
    have eL : (ps ++ #[rawInt pos.line, rawInt pos.col, .ref c']).toList = ps.toList ++ [rawInt pos.line, rawInt pos.col, .ref c'] := by simp
    refine h h'.objs.size c' ((X.mg "__name__").getD .none) ctv _ _ I1 hE (fun b hb => ?_) (fun p hp => ?_) (Heap.get?_push_size _ rfl) ?_ (nofr _ hsz) upd_same
    · by_cases z : b = c'
      · rw [z, upd_same]; exact fun q => nomatch q
      · rw [upd_ne z]
        by_cases z2 : b = P
        · rw [z2, upd_same]; exact fun q => nomatch q
        · rw [upd_ne z2]; exact hb
    · by_cases hb : p.1 = P
      · rw [hu p hp hb, hb]
        refine ⟨_, by rw [upd_ne (ne_of_none hP nC), upd_same], by rw [eL]; exact PySem.TriplesOk_snoc _ _ _ _ ht, fun p' cv hcv => ?_⟩
        rw [eL] at hcv
        rcases among_app _ ht hcv with z | z
        · obtain ⟨c0, e1, e2⟩ := ha p' cv z
          exact ⟨c0, e1, hE _ _ e2 codeO_ne⟩
        · exact ⟨c', z, upd_same⟩
      · obtain ⟨ps', a1, a2, a3⟩ := hT p hp
        refine ⟨ps', by rw [upd_ne (ne_of_none a1 nC), upd_ne hb]; exact a1, a2, fun p' cv hcv => ?_⟩
        obtain ⟨c0, e1, e2⟩ := a3 p' cv hcv
        exact ⟨c0, e1, hE _ _ e2 codeO_ne⟩
    · have n1 : h'.objs.size ≠ c' := Nat.ne_of_gt hlt
      have n2 : h'.objs.size ≠ P := Nat.ne_of_gt (Nat.lt_of_lt_of_le (Heap.lt_size hP') hsz)
      rw [upd_ne n1, upd_ne n2]
      exact I.hok.fresh hsz
  | some cv =>
    obtain ⟨c', e, hco⟩ := ha pos cv hc
    subst e
    refine PySem.W.kla_makeFunctionHit (mg := X.mg) (c := c) (P := P) (ps := ps) (closure_ok hfree) I.ok.glob (I.mod.glob.keeps I.bk) hcode (TB.code.keeps I.bk) hP' ht hc bP fun ctv h' tk hx hsz => ?_
    have I1 : Inv X pins σ H { s with heap := h'.push (PySem.W.kla_obj "<lambda>" (X.env.qual ++ "<lambda>") params body scope (cloFrom X.env.cells scope.names []) ((X.mg "__name__").getD .none) c' ctv), toks := tk } := I.kept fun b o e => Heap.get?_push_of_some _ (hx b o e)
    exact h h'.objs.size c' ((X.mg "__name__").getD .none) ctv H _ I1 (ExtN.refl H) (fun _ z => z) hT (Heap.get?_push_size _ rfl) (I.hok.fresh hsz) (nofr _ hsz) hco
/-- a(), in the def that got the lambda -/
theorem act_of {Eg : XK} {Ng : List Str} {qg : Str} {sg : Scope} {g f c' : Addr} {cdg pm ctv : Value} {params : Arguments} {body : Expr} {scope : Scope} {k : Nat} {a : Str} {F0 : Hp} {go g1 : Gm} {m : M D} {r : Option Nat} {d : D}
    (I : Inv X pins σ H s) (L : LamS X.env.scope scope) (hf : s.heap.get? f = some (PySem.W.kla_obj "<lambda>" (X.env.qual ++ "<lambda>") params body scope (cloFrom X.env.cells scope.names []) pm c' ctv)) (hfn : H f = none) (hfr : f ∉ frs X.stack)
    (hbind : bindArgs (PySem.W.kla_fn "<lambda>" (X.env.qual ++ "<lambda>") params body scope (cloFrom X.env.cells scope.names []) pm (.ref c') ctv) ⟨[], []⟩ = pure [])
    (hr : Room (k + 1) (X.A.deeper (envOfC qg sg s.heap.objs.size g cdg)))
    (S : Sta X.K F0 (imO go) σ H) (hco : F0 c' = some (CodeO c' (X.env.qual ++ "<lambda>"))) (hm : m (imO go) = some (match r with
      | none => .ok d g1
      | some c => .ex c g1))
    (hbody : ∀ (A : Around) (outer : List Env) (s' : Shared) (H' : Hp) (E : XK), Room k (A.deeper (lamEnv X scope s'.heap.objs.size f c')) → Takes (lamCx X A outer s' H' E scope f c') (wE E) → SE (lamCx X A outer s' H' E scope f c') (wE E) body m)
    (hN : Ng[0]? = some a) (hv : Vis sg a) (hd : (a == ("__debug__" : Str)) = false := by decide) (hcd : (a == ("__classdict__" : Str)) = false := by decide) :
    Act (cxOf (L2.CX X.prog X.w) X.prog X.w X.K X.mg X.base Ng qg sg g cdg X.A X.stack s H Eg) a f F0 r d := by
  intro W pn xe p1 p2 tk
  refine ⟨fun pinsZ sZ σZ HZ Q IZ h => ?_⟩
  obtain ⟨F, sF, sH, tb, hs, hk⟩ := h
  have hc : HZ c' = some (CodeO c' (X.env.qual ++ "<lambda>")) := sH _ _ (sF _ _ hco)
  have S2 : Sta X.K F (imO go) σ HZ := by
    have z := S.imO sF sH tb
    rw [imO_idem] at z
    exact z
  have ht : tG X.K (wE (WE W σZ)) (relE X.K) m σ HZ Q := by
    refine ⟨F, imO go, S2, ?_⟩
    rw [hm]
    cases r with
    | none => exact fun v F' H' S' P' rv => hk F' H' S'.none0 P'.none0 v rv
    | some c => exact fun F' H' S' P' => hk F' H' S'.none0 P'.none0
  refine wpAny_Call_Name_kw (thn ((pe_var (pos := p1) (i := 0) hN hv hd hcd).run pinsZ sZ σZ HZ (fun v H1 => v = .ref f ∧ H1 = HZ) IZ ⟨.ref f, hs, rfl, rfl⟩) fun u s1 ⟨v, H1, I1, r1, q1⟩ => ?_)
  obtain ⟨ev, eH⟩ := q1
  subst ev
  rw [eH] at I1
  obtain rfl : u = Value.ref f := r1
  have of1 : s1.heap.get? f = some (PySem.W.kla_obj "<lambda>" (X.env.qual ++ "<lambda>") params body scope (cloFrom X.env.cells scope.names []) pm c' ctv) := I1.base.keep f _ hf hfn hfr (fun z => nomatch (show f ∈ ([] : List Addr) from z))
  refine PySem.W.callWith_F0 ⟨_, _, _, _, of1⟩ ?_
  have un : Un (frs X.stack) [] H HZ s.heap s1.heap := I1.base
  obtain ⟨⟨oc, vs, t, hoc, hdc, hvc⟩, _, _⟩ := I1.hok c' _ hc
  have rc : codeAny (model X.prog X.w) (X.A.deeper (envOfC qg sg s.heap.objs.size g cdg)) (.call (.ref f) ⟨[], []⟩) (CR (L2.CX X.prog X.w) (envOfC qg sg s.heap.objs.size g cdg :: X.stack) X.prog X.w HZ s1 Q (WE W σZ)) s1 := by
    refine PySem.W.kla_callFunE hr.depth of1 rfl L.co L.gen rfl ⟨c', oc, vs, t, rfl, hoc, hdc, hvc⟩ ?_
    rw [hbind]
    refine wpAny_pure (wpAny_newFunctionEnv (fun y hy => (L.own y hy).2) (fun y hy => absurd hy (by simp)) (fun h₁ hns hsb => ⟨I1.nolimit.fresh _ hsb, ?_⟩) L.kind)
    show codeAny _ _ (.expr body (lamEnv X scope s1.heap.objs.size f c')) _ _
    have kp : ∀ b o, s1.heap.get? b = some o → h₁.get? b = some o := fun b o e => hsb.extBut b o (Nat.ne_of_lt (Heap.lt_size e)) (Heap.get?_push_of_some _ e)
    have J : Inv (lamCx X (X.A.deeper (envOfC qg sg s.heap.objs.size g cdg)) (envOfC qg sg s.heap.objs.size g cdg :: X.stack) s1 HZ (WE W σZ) scope f c') [] σ HZ { s1 with heap := h₁, toks := s1.toks + ([] : List (Str × Value)).length } :=
      lam_start2 I L I1.env0 hr.hd un hns kp
    refine PySem.W.kla_codeExpr (wpAny_mono ((hbody _ _ s1 HZ (WE W σZ) (hr.deeper _) (takes_of rfl rfl rfl rfl)).run [] _ _ HZ Q J ht) (fun v s' hq => ?_) fun e s' hq => hq)
    obtain ⟨w', H', J', rv, q⟩ := hq
    exact ⟨w', H', J'.os, J'.bare, J'.base, J'.hok, rv, q⟩
  refine wpAny_call (codeAny_mono rc fun r s' hq => ?_)
  cases r with
  | error e => exact passAt tk σZ pinsZ HZ s1 e s' I1 hq
  | ok fl =>
    cases fl with
    | ret u => exact I1.after hq
    | next => exact False.elim hq
    | brk => exact False.elim hq
    | cont => exact False.elim hq
end
end Cq

set_option Elab.async false
set_option linter.all false
set_option maxRecDepth 100000
set_option maxHeartbeats 2000000
namespace Cq
open PySem PySem.Spec PyProof.Rows L2 LamX
/-! ### f(lambda: E) -/
open Classical in
noncomputable def lamRes (n : Nat) (mm : Addr → Hp → Option Nat → D → M Fl) (r : Option Nat) (d : D) : M D := fun g =>
  if h : ∃ z, ∀ (fl : Addr) (F0 : Hp), runDef [.im] n (mm fl F0 r d) [.lam fl F0 r d] = some (.ret z []) then some (.ok h.choose g)
  else if h : ∃ z, ∀ (fl : Addr) (F0 : Hp), runDef [.im] n (mm fl F0 r d) [.lam fl F0 r d] = some (.new z []) then some (.ok h.choose g) else none
noncomputable def mLam (n : Nat) (mm : Addr → Hp → Option Nat → D → M Fl) (m : M D) : M D := fun g => match m (imO g) with
  | some (.ok d _) => lamRes n mm none d g
  | some (.ex c _) => lamRes n mm (some c) .non g
  | none => none
theorem lamRes_ret {n : Nat} {mm : Addr → Hp → Option Nat → D → M Fl} {r : Option Nat} {d z : D} {g : Gm} (k : ∀ (fl : Addr) (F0 : Hp), runDef [.im] n (mm fl F0 r d) [.lam fl F0 r d] = some (.ret z [])) : lamRes n mm r d g = some (.ok z g) := by
  have h : ∃ z, ∀ (fl : Addr) (F0 : Hp), runDef [.im] n (mm fl F0 r d) [.lam fl F0 r d] = some (.ret z []) := ⟨z, k⟩
  unfold lamRes
  rw [dif_pos h]
  have e := (h.choose_spec 0 (fun _ => none)).symm.trans (k 0 fun _ => none)
  cases (show h.choose = z from by injection e with e; injection e)
  rfl
theorem lamRes_new {n : Nat} {mm : Addr → Hp → Option Nat → D → M Fl} {r : Option Nat} {d z : D} {g : Gm} (k : ∀ (fl : Addr) (F0 : Hp), runDef [.im] n (mm fl F0 r d) [.lam fl F0 r d] = some (.new z [])) : lamRes n mm r d g = some (.ok z g) := by
  have h0 : ¬ ∃ z, ∀ (fl : Addr) (F0 : Hp), runDef [.im] n (mm fl F0 r d) [.lam fl F0 r d] = some (.ret z []) := fun ⟨z, h⟩ => by
    have e := (h 0 (fun _ => none)).symm.trans (k 0 fun _ => none)
    cases e
  have h : ∃ z, ∀ (fl : Addr) (F0 : Hp), runDef [.im] n (mm fl F0 r d) [.lam fl F0 r d] = some (.new z []) := ⟨z, k⟩
  unfold lamRes
  rw [dif_neg h0, dif_pos h]
  have e := (h.choose_spec 0 (fun _ => none)).symm.trans (k 0 fun _ => none)
  cases (show h.choose = z from by injection e with e; injection e)
  rfl
theorem mLam_ok {n : Nat} {mm : Addr → Hp → Option Nat → D → M Fl} {m : M D} {d z : D} {g g' : Gm} (h : m (imO g) = some (.ok d g')) (k : ∀ (fl : Addr) (F0 : Hp), runDef [.im] n (mm fl F0 none d) [.lam fl F0 none d] = some (.ret z [])) : mLam n mm m g = some (.ok z g) := by
  unfold mLam; rw [h]; exact lamRes_ret k
theorem mLam_ex {n : Nat} {mm : Addr → Hp → Option Nat → D → M Fl} {m : M D} {c : Nat} {z : D} {g g' : Gm} (h : m (imO g) = some (.ex c g')) (k : ∀ (fl : Addr) (F0 : Hp), runDef [.im] n (mm fl F0 (some c) .non) [.lam fl F0 (some c) .non] = some (.ret z [])) : mLam n mm m g = some (.ok z g) := by
  unfold mLam; rw [h]; exact lamRes_ret k
theorem lamRes_cases {n : Nat} {mm : Addr → Hp → Option Nat → D → M Fl} {r : Option Nat} {d : D} {g : Gm} : lamRes n mm r d g = none ∨ ∃ z, lamRes n mm r d g = some (.ok z g) ∧ ((∀ (fl : Addr) (F0 : Hp), runDef [.im] n (mm fl F0 r d) [.lam fl F0 r d] = some (.ret z [])) ∨ ∀ (fl : Addr) (F0 : Hp), runDef [.im] n (mm fl F0 r d) [.lam fl F0 r d] = some (.new z [])) := by
  by_cases h : ∃ z, ∀ (fl : Addr) (F0 : Hp), runDef [.im] n (mm fl F0 r d) [.lam fl F0 r d] = some (.ret z [])
  · obtain ⟨z, h⟩ := h
    exact .inr ⟨z, lamRes_ret h, .inl h⟩
  · by_cases h2 : ∃ z, ∀ (fl : Addr) (F0 : Hp), runDef [.im] n (mm fl F0 r d) [.lam fl F0 r d] = some (.new z [])
    · obtain ⟨z, h2⟩ := h2
      exact .inr ⟨z, lamRes_new h2, .inr h2⟩
    · refine .inl ?_
      unfold lamRes
      rw [dif_neg h, dif_neg h2]
theorem Sta.extN {K : Frag} {F F0 H H1 : Hp} {g : Gm} {σ : L2.St} (S : Sta K F g σ H) (eN : ExtN H H1) (st : ∀ b, H b ≠ none → H1 b ≠ none) (tb : TB K F0 H1) (sF : Sub F F0) (sH : Sub F0 H1) (new : ∀ x o, H x = some o → NB o → NT o → F x = none → F0 x = none) :
    Sta K F0 g σ H1 ∧ Stp F H g σ F0 H1 g σ := by
  -- a cell's objects stay
  have ce : ∀ {i : Nat} {d : D} {a x : Addr} {o : HO}, (g[i]?).bind Sl.cell = some d → σ[i]? = some (some (V.ref a)) → Foot H a x → H x = some o → NB o ∧ NT o ∧ F x = none ∧ H1 x = some o := fun {i d a x o} c e f h => by
    obtain ⟨a', e', k, n⟩ := S.cell c
    rw [e] at e'; cases e'
    have nb := (k.dt f h).1
    exact ⟨nb, k.nt f h, n x f, eN x o h nb⟩
  have cm : ∀ {i : Nat} {d : D} {a : Addr}, (g[i]?).bind Sl.cell = some d → σ[i]? = some (some (V.ref a)) → H1 a = H a ∧ ∃ u, H a = some u := fun {i d a} c e => by
    obtain ⟨a', e', k, n⟩ := S.cell c
    rw [e] at e'; cases e'
    obtain ⟨u, hu⟩ := k.at
    exact ⟨by rw [(ce c e (.inl rfl) hu).2.2.2, hu], u, hu⟩
  have foot : ∀ {i : Nat} {d : D} {a x : Addr}, (g[i]?).bind Sl.cell = some d → σ[i]? = some (some (V.ref a)) → Foot H1 a x → Foot H a x := fun {i d a x} c e f => by
    obtain ⟨same, u, hu⟩ := cm c e
    exact f.same hu same
  have cell : ∀ {i : Nat} {d : D}, (g[i]?).bind Sl.cell = some d → ∃ a, σ[i]? = some (some (V.ref a)) ∧ Cell K F0 H1 a d ∧ ∀ x, Foot H1 a x → F0 x = none := fun {i d} c => by
    obtain ⟨a, e, k, n⟩ := S.cell c
    refine ⟨a, e, k.same sF fun x o f h => (ce c e f h).2.2.2, fun x f => ?_⟩
    have f0 := foot c e f
    obtain ⟨o, ho⟩ := k.foot f0
    obtain ⟨nb, nt, nf, _⟩ := ce c e f0 ho
    exact new x o ho nb nt nf
  have own : ∀ x, Own g σ H1 x → Own g σ H x := fun x ⟨i, d, a, c, e, f⟩ => ⟨i, d, a, c, e, foot c e f⟩
  refine ⟨⟨sH, S.len, fun i t e => ?_, fun i j d e a b x ij c1 c2 e1 e2 f1 f2 => S.inj i j d e a b x ij c1 c2 e1 e2 (foot c1 e1 f1) (foot c2 e2 f2), fun i d a e1 e2 => (S.ro i d a e1 e2).imp (fun r => r.mono sF) fun r o => r (own a o), tb⟩,
    sF, st, fun x o h nb n no => ⟨eN x o h nb, fun nt => new x o h nb nt (n nt)⟩, fun x o => .inl (own x o), fun i d h => ⟨h, rfl⟩, fun i d h => ⟨⟨d, h⟩, rfl⟩, fun b C dx fv h => ⟨fv, eN _ _ h fun _ z => nomatch z⟩⟩
  have k := S.slot i t e
  cases t with
  | un => trivial
  | im d => obtain ⟨v, e1, r⟩ := k; exact ⟨v, e1, r.mono sF⟩
  | ow d => exact cell (i := i) (d := d) (by rw [e]; rfl)
  | mb d => exact cell (i := i) (d := d) (by rw [e]; rfl)
  | ro d =>
    obtain ⟨v, w, r⟩ := k
    refine ⟨v, w, ?_⟩
    rcases r with r | ⟨a, rfl, c, n⟩
    · exact .inl (r.mono sF)
    · obtain ⟨u, hu⟩ := c.at
      have same : H1 a = some u := eN a u hu (c.dt (.inl rfl) hu).1
      exact .inr ⟨a, rfl, c.same sF fun x o f hx => by
        cases n x f
        rw [hu] at hx; cases hx; exact same, fun x f => n x (f.same hu (by rw [same, hu]))⟩
section
variable {X : Cx} {W : WX} {p pos lpos : Pos}
theorem se_lam {k : Nat} {N : List Str} {x a : Str} {sg : Scope} {g c P : Addr} {mm : Addr → Hp → Option Nat → D → M Fl} {m : M D} {params : Arguments} {body : Expr} {scope : Scope} (tk : Takes X W) (hg : Gl X x) (hm : X.mg x = some (.ref g)) (hk : PySem.W.keepIn X.K (.ref g) = true)
    (FL : FnL X.prog X.w X.K X.mg X.base (k + 2) g N x sg a mm) (hN : N[0]? = some a) (hv : Vis sg a) (B : TabB X.base X.mg c P) (hcode : X.env.code = .ref c) (hT : P ∈ tT X.K) (hq : lamN X.K P = X.env.qual ++ "<lambda>") (hr : Room (k + 2) X.A) (L : LamS X.env.scope scope) (hdef : defaultsOf params X.env = ([], []))
    (hbind : ∀ (q : Str) (cl : List (Str × Addr)) (pm cv ctv : Value), bindArgs (PySem.W.kla_fn "<lambda>" q params body scope cl pm cv ctv) ⟨[], []⟩ = pure [])
    (hbody : ∀ (A : Around) (outer : List Env) (s : Shared) (H : Hp) (E : XK) (f c' : Addr), Room k (A.deeper (lamEnv X scope s.heap.objs.size f c')) → Takes (lamCx X A outer s H E scope f c') (wE E) → SE (lamCx X A outer s H E scope f c') (wE E) body m)
    (hdb : (x == ("__debug__" : Str)) = false := by decide) (hd : (a == ("__debug__" : Str)) = false := by decide) (hcd : (a == ("__classdict__" : Str)) = false := by decide) :
    SE X W (.Call (.Name x p) [.Lambda params body scope lpos] [] pos) (mLam N.length mm m) := by
  refine ⟨fun pins s σ H Q I h => ?_⟩
  obtain ⟨F, go, S, h⟩ := h
  obtain ⟨r, d, g1, hmm, h⟩ : ∃ (r : Option Nat) (d : D) (g1 : Gm), m (imO go) = some (match r with
      | none => .ok d g1
      | some c => .ex c g1) ∧ Pst X.K W σ (relE X.K) F H go Q (lamRes N.length mm r d go) := by
    unfold mLam at h
    cases o : m (imO go) with
    | none => rw [o] at h; exact h.elim
    | some r => cases r with
      | ok d g1 => rw [o] at h; exact ⟨none, d, g1, rfl, h⟩
      | ex c g1 => rw [o] at h; exact ⟨some c, .non, g1, rfl, h⟩
  obtain ⟨z, hz, hres⟩ : ∃ z, lamRes N.length mm r d go = some (.ok z go) ∧ ((∀ (fl : Addr) (F0 : Hp), runDef [.im] N.length (mm fl F0 r d) [.lam fl F0 r d] = some (.ret z [])) ∨ ∀ (fl : Addr) (F0 : Hp), runDef [.im] N.length (mm fl F0 r d) [.lam fl F0 r d] = some (.new z [])) := by
    rcases lamRes_cases (n := N.length) (mm := mm) (r := r) (d := d) (g := go) with q | q
    · rw [q] at h; exact h.elim
    · exact q
  rw [hz] at h
  have h : ∀ v F' H', Sta X.K F' go σ H' → Stp F H go σ F' H' go σ → Rep X.K F' v z → Q v H' := h
  refine wpAny_Call_Name_kw (ld_glob I hg hm ?_ hdb)
  refine PySem.W.callWith_K (h₀ := X.base) I.ok.mod.kin hk ?_ (by rfl) (by rfl)
  show wpAny _ _ (spliced ((false, eval (.Lambda params body scope lpos) X.env) :: backTo pos (starEach [] X.env))) _ _ s
  have hmT : (P, X.env.qual ++ "<lambda>") ∈ tTs X.K := List.mem_map.mpr ⟨P, hT, by rw [hq]⟩
  have hu : ∀ p ∈ tTs X.K, p.1 = P → p.2 = X.env.qual ++ "<lambda>" := fun p hp e => by
    obtain ⟨P', _, rfl⟩ := List.mem_map.mp hp
    have e : P' = P := e
    subst e
    exact hq
  refine Calls.spliced_cons (lam_made I B hcode hmT hu S.tb.at_ hdef (L.has I.ok) fun f c' pm' ctv H1 s' I1 eN st T1 hf hfn hfr hco => ?_)
  refine Calls.spliced_nil ⟨I1.kIn, ?_⟩
  have sF0 : Sub F (upd F c' (CodeO c' (X.env.qual ++ "<lambda>"))) := fun x o e => by
    by_cases hx : x = c'
    · have e1 := eN x o (S.sub _ _ e) fun ps q => S.tb.nf x ps (by rw [e, q])
      rw [hx, upd_same]
      rw [hx, hco] at e1
      exact e1
    · rw [upd_ne hx]; exact e
  have sH0 : Sub (upd F c' (CodeO c' (X.env.qual ++ "<lambda>"))) H1 := fun x o e => by
    by_cases hx : x = c'
    · rw [hx, upd_same] at e; rw [hx]; cases e; exact hco
    · rw [upd_ne hx] at e
      exact eN x o (S.sub _ _ e) fun ps q => S.tb.nf x ps (by rw [e, q])
  have tb : TB X.K (upd F c' (CodeO c' (X.env.qual ++ "<lambda>"))) H1 := ⟨T1, fun x ps e => S.tb.nf x ps (fz_upd (fun ps => codeO_ne ps) x ps e)⟩
  obtain ⟨S1, P1⟩ := S.extN eN st tb sF0 sH0 fun x o e nb nt n => by
    by_cases hx : x = c'
    · have e1 := eN x o e nb
      rw [hx, hco] at e1
      cases e1
      exact (nt () (by unfold CodeO; exact .ext _)).elim
    · rw [upd_ne hx]; exact n
  have SI := S1.imO (Sub.refl _) sH0 tb
  have hsp : spF X.K [.im] (runDef [.im] N.length (mm f (upd F c' (CodeO c' (X.env.qual ++ "<lambda>"))) r d)) [.ref f] H1 Q (WE W σ) := by
    refine ⟨_, [.lam f (upd F c' (CodeO c' (X.env.qual ++ "<lambda>"))) r d], rfl, rfl, ⟨sH0, rfl, fun i t e => ?_, fun i j d e a b x ij c1 => ?_, fun i d a e => ?_, tb⟩, ?_⟩
    · cases i with
      | zero => cases e; exact ⟨_, rfl, .lam (Sub.refl _)⟩
      | succ i => cases e
    · cases i with
      | zero => cases c1
      | succ i => cases c1
    · cases i with
      | zero => cases e
      | succ i => cases e
    · have out : ∀ F' H', Sta X.K F' (gAft [.im] [.lam f (upd F c' (CodeO c' (X.env.qual ++ "<lambda>"))) r d] []) ([V.ref f].map some) H' → Stp (upd F c' (CodeO c' (X.env.qual ++ "<lambda>"))) H1 (gOf [.im] [.lam f (upd F c' (CodeO c' (X.env.qual ++ "<lambda>"))) r d]) ([V.ref f].map some) F' H' (gAft [.im] [.lam f (upd F c' (CodeO c' (X.env.qual ++ "<lambda>"))) r d] []) ([V.ref f].map some) →
          Sta X.K F' go σ H' ∧ Stp F H go σ F' H' go σ ∧ ∀ x, Own go σ H' x → Own go σ H1 x := fun F' H' S' P' => by
        obtain ⟨z1, z2, z3⟩ := S1.called P' S' (fun _ _ => False) (fun _ _ r => r.elim) (fun p d c => by
          cases p with
          | zero => cases c
          | succ p => cases c) (fun _ _ _ r => r.elim) rfl (fun i => .inr ⟨fun _ r => r, rfl⟩)
        refine ⟨z1, P1.trans z2, fun x o => ?_⟩
        rcases z3 x o with ⟨i, d, a, c, _⟩ | q
        · cases i with
          | zero => cases c
          | succ i => cases c
        · exact q
      rcases hres with e | e
      · rw [e]
        exact fun v F' H' S' P' rv => let ⟨z1, z2, _⟩ := out F' H' S' P'; h v F' H' z1 z2 rv
      · rw [e]
        intro b F' H' S' P' cl n
        obtain ⟨z1, z2, z3⟩ := out F' H' S' P'
        have k0 : ∀ x, Foot H' b x → H x = none := fun x fx => by
          cases q : H x with
          | none => rfl
          | some o => exact absurd (n x fx).2.2 (st x (by rw [q]; exact fun z => nomatch z))
        refine h (.ref b) (frz F' H' b) H' (z1.grow (frz_grow z1.sub) (frz_sub z1.sub) (fun x y o => ?_) rfl (fun _ _ z => .inl z) (fun _ _ _ z _ => z) (fun _ _ z => z) (cl.frz_nt z1.tb.nf)) ⟨z2.fg.trans (frz_grow z1.sub), z2.st, fun x o h1 nb h2 h3 => ?_, z2.own, z2.kro, z2.kmb, z2.ki⟩ (cl.frz z1.sub)
        · rw [frz_out fun fx => ?_]
          · exact y
          · obtain ⟨o1, ho1⟩ := S1.own_at (z3 x o)
            rw [(n x fx).2.2] at ho1; cases ho1
        · obtain ⟨e1, e2⟩ := z2.fr x o h1 nb h2 h3
          refine ⟨e1, ?_⟩
          rw [frz_out fun fx => by rw [k0 x fx] at h1; cases h1]
          exact e2
  have rc : codeAny (model X.prog X.w) X.A (.call (.ref g) ⟨[.ref f], []⟩) (CR (L2.CX X.prog X.w) X.stack X.prog X.w H1 s' Q (WE W σ)) s' :=
    FL X.A X.stack s' H1 f _ r d Q (WE W σ) hr I1.env0 (fun cdv hr' => act_of I1 L hf hfn hfr (hbind _ _ _ _ _) hr' SI upd_same hmm (fun A outer s' H' E hr2 tk2 => hbody A outer s' H' E f c' hr2 tk2) hN hv hd hcd) hsp
  refine wpAny_call (codeAny_mono rc fun r s2 hq => ?_)
  cases r with
  | error e => exact passAt tk σ pins H1 s' e s2 I1 hq
  | ok fl =>
    cases fl with
    | ret u => exact I1.after hq
    | next => exact False.elim hq
    | brk => exact False.elim hq
    | cont => exact False.elim hq
end
end Cq

set_option Elab.async false
set_option linter.all false
set_option maxRecDepth 100000
set_option maxHeartbeats 2000000
namespace Cq
open PySem PySem.Spec PyProof.Rows L2 LamX
/-! ### the head's facts of code objects and their tables -/
def tab0 : Obj := { cls := .none, data := .fields #[] }
def codC (K : Frag) (x : Str) : Addr := match K.lookup (He.ga K x) with
  | some o => (match o.data with
    | .func fd => (match fd.code with
      | .ref c => c
      | _ => 0)
    | _ => 0)
  | none => 0
theorem codO_eq {K : Frag} {x : Str} {cdv : Value} (h : CodO K (He.ga K x) cdv) : cdv = .ref (codC K x) := by
  obtain ⟨oc, od, fd, osl, lk, e, hc⟩ := h
  unfold codC
  rw [lk]
  subst e
  unfold PySem.W.codeIn at hc
  split at hc
  · rename_i c h
    simp only [h]
  · cases hc
def tabP (K : Frag) (x : Str) : Addr := match K.lookup (codC K x) with
  | some o => (match o.data with
    | .fields vs => (match vs[11]? with
      | some (Value.ref p) => p
      | _ => 0)
    | _ => 0)
  | none => 0
def markO (ts : List Addr) : Obj := { cls := .str "tables" 0, data := .fields (ts.map Value.ref).toArray }
/-- the head's fragment: the tables taken out, their list at the end -/
def lamK (xs : List Str) (K : Frag) : Frag := (K.filter fun e => !((xs.map (tabP K)).contains e.1)) ++ [(sysModules, markO (xs.map (tabP K)))]
def isTab0 (o : Obj) : Bool := (match o.cls, o.dict, o.data with
  | .none, none, .fields vs => vs.size == 0
  | _, _, _ => false) && (o.slots.size == 0)
theorem isTab0_ok {o : Obj} (h : isTab0 o = true) : o = tab0 := by
  obtain ⟨c, d, dt, sl⟩ := o
  unfold isTab0 at h
  obtain ⟨h1, h2⟩ := He.ba h
  have e2 : sl = #[] := Array.eq_empty_of_size_eq_zero (eq_of_beq h2)
  subst e2
  cases c with
  | none => cases d with
    | none => cases dt with
      | fields vs =>
        have e3 : vs = #[] := Array.eq_empty_of_size_eq_zero (eq_of_beq h1)
        subst e3
        rfl
      | _ => cases h1
    | some d => cases h1
  | _ => cases h1
def okTabs (xs : List Str) (K : Frag) : Bool := xs.all (fun x => match K.lookup (tabP K x) with
  | some o => isTab0 o
  | none => false) && ((K.filter fun e => !((xs.map (tabP K)).contains e.1)).lookup sysModules).isSome
theorem lookup_filter {α : Type} {f : Addr → Bool} {a : Addr} {o : α} : ∀ {l : List (Addr × α)}, (l.filter fun e => f e.1).lookup a = some o → l.lookup a = some o
  | [], h => h
  | (b, v) :: r, h => by
    by_cases e : a = b
    · subst e
      by_cases q : f a = true
      · rw [List.filter_cons_of_pos (by exact q)] at h
        simpa using h
      · rw [List.filter_cons_of_neg (by simpa using q)] at h
        exfalso
        have : ∀ {l : List (Addr × α)}, (l.filter fun e => f e.1).lookup a = none := fun {l} => by
          induction l with
          | nil => rfl
          | cons y t ih =>
            by_cases q2 : f y.1 = true
            · rw [List.filter_cons_of_pos (by exact q2)]
              obtain ⟨y1, y2⟩ := y
              have : a ≠ y1 := fun z => by subst z; exact q q2
              simp only [List.lookup, beq_false_of_ne this]
              exact ih
            · rw [List.filter_cons_of_neg (by simpa using q2)]; exact ih
        rw [this] at h; cases h
    · have e' : (a == b) = false := beq_false_of_ne e
      by_cases q : f b = true
      · rw [List.filter_cons_of_pos (by exact q)] at h
        simp only [List.lookup, e'] at h ⊢
        exact lookup_filter h
      · rw [List.filter_cons_of_neg (by simpa using q)] at h
        simp only [List.lookup, e']
        exact lookup_filter h
theorem lookup_append {α : Type} {a : Addr} {o : α} {m : List (Addr × α)} : ∀ {l : List (Addr × α)}, (l ++ m).lookup a = some o → l.lookup a = some o ∨ (l.lookup a = none ∧ m.lookup a = some o)
  | [], h => .inr ⟨rfl, h⟩
  | (b, v) :: r, h => by
    by_cases e : a = b
    · subst e
      simp only [List.cons_append, List.lookup, beq_self_eq_true] at h ⊢
      exact .inl h
    · have e' : (a == b) = false := beq_false_of_ne e
      simp only [List.cons_append, List.lookup, e'] at h ⊢
      exact lookup_append h
theorem lamK_look {xs : List Str} {K : Frag} (k : okTabs xs K = true) {a : Addr} {o : Obj} (h : (lamK xs K).lookup a = some o) : K.lookup a = some o := by
  unfold lamK at h
  rcases lookup_append h with h | ⟨n, h⟩
  · exact lookup_filter (f := fun b => !((xs.map (tabP K)).contains b)) h
  · by_cases e : a = sysModules
    · obtain ⟨_, k2⟩ := He.ba k
      rw [← e, n] at k2
      cases k2
    · simp only [List.lookup, beq_false_of_ne e] at h
      cases h
structure LamD (K : Frag) (x : Str) : Prop where
  code : ∀ {h : Heap}, K.In h → PySem.W.CodeHd h (codC K x) (tabP K x)
  out : K.lookup (tabP K x) = none
  mem : tabP K x ∈ tT K
  name : lamN K (tabP K x) = x ++ ".<locals>." ++ "<lambda>"
def codeB (K : Frag) (c P : Addr) : Bool := match K.lookup c with
  | some o => (match o.cls, o.data with
    | .type t, .fields vs => t == "code" && ((match vs[11]? with
      | some (Value.ref p) => p == P
      | _ => false) && ((match vs.getD 11 .none with
      | .ref p => p == P
      | _ => false) && ((match vs.getD 18 .none with
      | .str _ _ => true
      | _ => false) && ((match vs.getD 7 .none with
      | .int _ _ => true
      | _ => false) && ((match vs.getD 9 .none with
      | .bool _ => true
      | _ => false) && ((match vs.getD 10 .none with
      | .int _ _ => true
      | _ => false) && (c != P)))))))
    | _, _ => false)
  | none => false
theorem codeB_ok {K : Frag} {c P : Addr} (h : codeB K c P = true) {hp : Heap} (X : K.In hp) : PySem.W.CodeHd hp c P := by
  unfold codeB at h
  cases e : K.lookup c with
  | none => rw [e] at h; cases h
  | some o =>
    rw [e] at h
    obtain ⟨oc, od, dt, sl⟩ := o
    cases oc with
    | type t =>
      cases dt with
      | fields vs =>
        have h := h
        simp only at h
        obtain ⟨h1, h⟩ := He.ba h
        obtain ⟨h2, h⟩ := He.ba h
        obtain ⟨h3, h⟩ := He.ba h
        obtain ⟨h4, h⟩ := He.ba h
        obtain ⟨h5, h⟩ := He.ba h
        obtain ⟨h6, h⟩ := He.ba h
        obtain ⟨h7, h8⟩ := He.ba h
        have e1 : t = "code" := eq_of_beq h1
        subst e1
        have e2 : vs[11]? = some (Value.ref P) := by
          split at h2
          · rename_i p q; rw [q, eq_of_beq h2]
          · cases h2
        have e3 : vs.getD 11 .none = .ref P := by
          split at h3
          · rename_i p q; rw [q, eq_of_beq h3]
          · cases h3
        obtain ⟨f, tf, e4⟩ : ∃ f tf, vs.getD 18 .none = .str f tf := by
          split at h4
          · rename_i p q r; exact ⟨_, _, r⟩
          · cases h4
        obtain ⟨fl, tg, e5⟩ : ∃ f tf, vs.getD 7 .none = .int f tf := by
          split at h5
          · rename_i p q r; exact ⟨_, _, r⟩
          · cases h5
        obtain ⟨b, e6⟩ : ∃ b, vs.getD 9 .none = .bool b := by
          split at h6
          · rename_i p q; exact ⟨_, q⟩
          · cases h6
        obtain ⟨tx, tt, e7⟩ : ∃ f tf, vs.getD 10 .none = .int f tf := by
          split at h7
          · rename_i p q r; exact ⟨_, _, r⟩
          · cases h7
        exact ⟨_, vs, f, tf, fl, tg, b, tx, tt, X _ _ e, rfl, rfl, e2, e3, e4, e5, e6, e7, by simpa using h8⟩
      | _ => cases h
    | _ => cases dt <;> cases h
def tLamD (x : Str) : Tst := fun K => codeB K (codC K x) (tabP K x) && ((K.lookup (tabP K x)).isNone && ((tT K).contains (tabP K x) && decide (lamN K (tabP K x) = x ++ ".<locals>." ++ "<lambda>")))
theorem lamD_ok {K : Frag} {x : Str} (h : tLamD x K = true) : LamD K x := by
  obtain ⟨h1, h⟩ := He.ba h
  obtain ⟨h2, h⟩ := He.ba h
  obtain ⟨h3, h4⟩ := He.ba h
  exact ⟨fun X => codeB_ok h1 X, Option.isNone_iff_eq_none.mp h2, by simpa using h3, of_decide_eq_true h4⟩
def tTabs (xs : List Str) : Tst := fun K => decide (tT K = xs.map (tabP K))
def SaysL (xs : List Str) (fa : List Tst) (fn : List He5.DefA) (h : Heap) : Prop := ∃ K0 : Frag, K0.In h ∧ okTabs xs K0 = true ∧ SaysP fa fn (lamK xs K0)
def obsLG (n : Nat) (xs : List Str) (fa : List Tst) (fn : List He5.DefA) (g : Addr → Option Obj) : He.AlD :=
  let K0 := He.frG g (He5.asA g n ++ [sysModules])
  let o := obsP fa fn (lamK xs K0)
  (okTabs xs K0 && o.1, o.2)
theorem obsL_of {xs : List Str} {fa : List Tst} {fn : List He5.DefA} {K0 : Frag} (e : ((okTabs xs K0 && (obsP fa fn (lamK xs K0)).1, (obsP fa fn (lamK xs K0)).2) : He.AlD) = He5.valA fn) : okTabs xs K0 = true ∧ SaysP fa fn (lamK xs K0) := by
  have e1 : (okTabs xs K0 && (obsP fa fn (lamK xs K0)).1) = true := congrArg (fun z : He.AlD => z.1) e
  have e2 := congrArg (fun z : He.AlD => z.2) e
  obtain ⟨h1, h2⟩ := He.ba e1
  exact ⟨h1, Prod.ext h2 e2⟩
def hookL (n : Nat) (xs : List Str) (fa : List Tst) (fn : List He5.DefA) : PySem.W.Hook where
  α := He.AlD
  obs := fun s => obsLG n xs fa fn s.heap.get?
  val := fun _ => He5.valA fn
  says := fun _ h => SaysL xs fa fn h
  of := fun _ _ e => ⟨_, He.frG_in, obsL_of e⟩
  keeps := fun _ _ _ ⟨K, hK, c⟩ k => ⟨K, PySem.W.Frag.In.keeps hK k, c⟩
theorem obsLG_eq {n : Nat} {xs : List Str} {fa : List Tst} {fn : List He5.DefA} {g : Addr → Option Obj} {s : Shared} (h : ∀ a, g a = s.heap.get? a) : obsLG n xs fa fn g = (hookL n xs fa fn).obs s := by
  rw [show g = s.heap.get? from funext h] <;> rfl
theorem tT_lamK (xs : List Str) (K : Frag) : tT (lamK xs K) = xs.map (tabP K) := by
  have snoc : ∀ (l : Frag) (ts : List Addr), tT (l ++ [(sysModules, markO ts)]) = ts := fun l ts => by
    unfold tT
    rw [List.getLast?_concat]
    simp only [markO, if_true]
    induction ts with
    | nil => rfl
    | cons t r ih => simpa using ih
  exact snoc _ _
theorem SaysL.frag {xs : List Str} {fa : List Tst} {fn : List He5.DefA} {h : Heap} (Y : SaysL xs fa fn h) : ∃ K : Frag, K.In h ∧ SaysP fa fn K ∧ ∀ P ∈ tT K, h.get? P = some tab0 := by
  obtain ⟨K0, KX, k, c⟩ := Y
  refine ⟨lamK xs K0, fun a o e => KX a o (lamK_look k e), c, fun P hP => ?_⟩
  rw [tT_lamK] at hP
  obtain ⟨x, hx, rfl⟩ := List.mem_map.mp hP
  have q := List.all_eq_true.mp (He.ba k).1 x hx
  cases e : K0.lookup (tabP K0 x) with
  | none => simp only [e] at q; cases q
  | some o =>
    simp only [e] at q
    rw [KX _ _ e, isTab0_ok q]
end Cq
namespace L2
open PySem PySem.Spec PyProof.Rows Cq LamX
theorem law_callL {P : Program} {w : World} {K : PySem.W.Frag} {mg mb : Str → Option Value} {CX : CXT} {k : Nat} {fa a : Addr} {cs : List (Addr × Addr)} {sp : Sp} {s₁ : Shared} {vs : List Value} {ns : List Int}
    (KX : K.In s₁.heap) (hns : s₁.heap.Ns mainGlobals mg) (hb : s₁.heap.Ns builtinsNs mb) (hbb : ∀ x : Str, x ≠ "__name__" → mb x = bootBuiltins x) (hlim : s₁.heap.NoLimit) (hg : s₁.gens = #[])
    (hT : ∀ p ∈ cs, s₁.heap.get? p.2 = some { cls := .none, data := .fields #[] }) (nT : ∀ p ∈ cs, K.lookup p.2 = none) (C : ∀ p ∈ cs, PySem.W.CodeHd s₁.heap p.1 p.2)
    (hbm : ∃ (bm : Addr) (ob : Obj), mg "__builtins__" = some (.ref bm) ∧ bm ≠ builtinsNs ∧ s₁.heap.get? bm = some ob ∧ ob.cls = .type "module" ∧ ob.dict = some builtinsNs ∧ ob.data = .plain)
    (ha : s₁.heap.get? a = some { cls := .type "list", data := .seq vs.toArray }) (hi : IntsAre vs ns) (hl : ns.length ≤ sizeLine) (hr : Room k callerA)
    (F : ∀ base : Heap, K.In base → base.Ns mainGlobals mg → (∀ p ∈ cs, TabB base mg p.1 p.2) → Cq.FnG P w K mg base CX k fa sp)
    (hsp : ∀ H : Hp, (∀ p ∈ cs, H p.2 = some (.tbl #[])) → SqL K H a (ns.map V.int) → sp [.ref a] H (fun v _ => v = .bl true) fun _ _ _ => False)
    (hCX : ∀ H e s', CX [] H s₁ (fun _ _ _ => False) e s' → False) :
    codeAny (model P w) callerA (.call (.ref fa) ⟨[.ref a], []⟩) (fun r s' => r = .ok (.ret (.bool true)) ∧ OldK s₁.heap s'.heap ∧ s'.os = s₁.os ∧ AllBare s'.gens) s₁ := by
  have rv := vals_ints hi
  have lenV := hi.length
  have isT : ∀ b : Addr, b ∈ cs.map (·.2) → s₁.heap.get? b = some { cls := .none, data := .fields #[] } := fun b hb => by
    obtain ⟨p, hp, e⟩ := List.mem_map.mp hb
    rw [← e]
    exact hT p hp
  have aT : a ∉ cs.map (·.2) := fun z => by
    have q := isT a z
    rw [ha] at q
    have z' : Data.seq vs.toArray _ = Data.fields #[] := congrArg Obj.data (Option.some.inj q)
    cases z'
  have memT : ∀ p ∈ cs, p.2 ∈ cs.map (·.2) := fun p hp => List.mem_map.mpr ⟨p, hp, rfl⟩
  -- from an abstract heap in which nothing but the script and the tables may be tracked
  have core : ∀ H : Hp, (∀ p ∈ cs, H p.2 = some (.tbl #[])) → (∀ b, H b = none ∨ b ∈ cs.map (·.2) ∨ ∃ o xs, H b = some (.frz o (.lst xs))) → SqL K H a (ns.map V.int) → HOk P w H s₁.heap → (∀ b, H b ≠ none → b = a ∨ b ∈ cs.map (·.2)) → (H a ≠ none → K.lookup a = none) →
      codeAny (model P w) callerA (.call (.ref fa) ⟨[.ref a], []⟩) (fun r s' => r = .ok (.ret (.bool true)) ∧ OldK s₁.heap s'.heap ∧ s'.os = s₁.os ∧ AllBare s'.gens) s₁ := by
    intro H hH hO hS hok hA hK
    have base_of : ∀ {b : Addr} {o : Obj}, s₁.heap.get? b = some o → H b = none → (hidT s₁.heap H).get? b = some o := fun e n => hidT_get e n
    have noD : ∀ {b : Addr} {o : Obj}, s₁.heap.get? b = some o → (∀ vs n, o.data ≠ .seq vs n) → o.data ≠ .fields #[] → H b = none := fun {b o} e h1 h2 => by
      cases q : H b with
      | none => rfl
      | some u =>
        rcases hA b (by rw [q]; simp) with e' | e'
        · rw [e', ha] at e
          cases e
          exact (h1 _ _ rfl).elim
        · rw [isT b e'] at e
          cases e
          exact (h2 rfl).elim
    have noA : ∀ {b : Addr} {o : Obj} {es : Array DictEntry} {ep : Nat}, s₁.heap.get? b = some o → o.data = .dict es ep → H b = none := fun {b o es ep} e d => by
      refine noD e (fun vs n z => ?_) fun z => ?_
      · rw [d] at z
        cases z
      · rw [d] at z
        cases z
    have nsK : ∀ {b : Addr} {m : Str → Option Value}, s₁.heap.Ns b m → (hidT s₁.heap H).Ns b m := fun {b m} ⟨o, es, ep, e, d, r⟩ => ⟨o, es, ep, base_of e (noA e d), d, r⟩
    have hKb : K.In (hidT s₁.heap H) := fun b o e => base_of (KX b o e) (by
      cases q : H b with
      | none => rfl
      | some u =>
        rcases hA b (by rw [q]; simp) with e' | e'
        · rw [e'] at e q
          rw [hK (by rw [q]; simp)] at e
          cases e
        · obtain ⟨p, hp, ep⟩ := List.mem_map.mp e'
          rw [← ep, nT p hp] at e
          cases e)
    have hM : L2.Mod K mg (hidT s₁.heap H) := ⟨hKb, nsK hns, ⟨mb, nsK hb, hbb⟩, let ⟨mc, h1, h2⟩ := hlim; ⟨mc, nsK h1, h2⟩⟩
    have TB : ∀ p ∈ cs, TabB (hidT s₁.heap H) mg p.1 p.2 := fun p hp => by
      have hTp := hT p hp
      refine ⟨?_, ?_, fun z => ?_⟩
      · obtain ⟨o, us, file, tf, flags, tg, inF, text, tt, e1, r1, r2, r3, r4, r5, r6, r7, r8, hne⟩ := C p hp
        refine ⟨o, us, file, tf, flags, tg, inF, text, tt, base_of e1 (noD e1 (fun vs n z => ?_) fun z => ?_), r1, r2, r3, r4, r5, r6, r7, r8, hne⟩
        · rw [r2] at z
          cases z
        · rw [r2] at z
          cases z
          simp at r3
      · obtain ⟨bm, ob, b1, b2, b3, b4, b5, b6⟩ := hbm
        have nG : bm ≠ mainGlobals := fun q => by
          obtain ⟨o, es, ep, e, hd, _⟩ := hns
          rw [q, e] at b3
          cases b3
          rw [hd] at b6
          cases b6
        have nP : bm ≠ p.2 := fun q => by
          rw [q, hTp] at b3
          cases b3
          cases b6
        refine ⟨bm, ob, b1, b2, nG, nP, base_of b3 (noD b3 (fun vs n z => ?_) fun z => ?_), b4, b5, b6⟩
        · rw [b6] at z
          cases z
        · rw [b6] at z
          cases z
      · obtain ⟨o, es, ep, e, hd, _⟩ := hns
        rw [z, hTp] at e
        cases e
        cases hd
    have e0 : Env0 P w K mg (hidT s₁.heap H) callerA [] s₁ H := ⟨rfl, hM, fun b o e => of_hidT e, Nat.le_of_eq (hidT_size _ _), trivial, fun b hb => absurd (show b ∈ ([] : List Addr) from hb) (by simp), hok, .of_eq hg⟩
    refine codeAny_mono (F _ hKb (nsK hns) TB callerA [] s₁ H [.ref a] [.ref a] _ _ rfl hr e0 (.cons rfl .nil) (hsp H hH hS)) fun r s' h => ?_
    cases r with
    | error e => exact (hCX H e s' h).elim
    | ok fl =>
      cases fl with
      | next => exact False.elim h
      | brk => exact False.elim h
      | cont => exact False.elim h
      | ret u =>
        obtain ⟨v, H', os, bare, un, hok', r', q⟩ := h
        have q' : v = .bl true := q
        subst q'
        obtain rfl : u = Value.bool true := r'
        have key : ∀ b o, b ∉ cs.map (·.2) → s₁.heap.get? b = some o → s'.heap.get? b = some o := fun b o nb e => by
          cases q : H b with
          | none => exact un.keep b o e q (by intro z; exact absurd (show b ∈ ([] : List Addr) from z) (by simp)) (by simp)
          | some u =>
            rcases hO b with z | z | ⟨ob, xs, z⟩
            · rw [q] at z; cases z
            · exact absurd z nb
            · have z2 := un.frzs b ob _ z
              obtain ⟨e1, _⟩ := hok b _ z
              obtain ⟨e2, _⟩ := hok' b _ z2
              rw [e] at e1; cases e1
              exact e2
        have grown : ∀ p ∈ cs, ∃ more : Array Value, s'.heap.get? p.2 = some { cls := .none, data := .fields more } := fun p hp => by
          obtain ⟨more, z⟩ := un.tbls p.2 #[] (hH p hp)
          exact ⟨_, hok' p.2 _ z⟩
        refine ⟨rfl, ⟨fun b o e => ?_, fun b o e => ?_⟩, os, bare⟩
        · by_cases hb : b ∈ cs.map (·.2)
          · obtain ⟨p, hp, ep⟩ := List.mem_map.mp hb
            obtain ⟨more, hm⟩ := grown p hp
            rw [← ep] at e ⊢
            rw [hT p hp] at e
            cases e
            exact .inr (.inl ⟨((C p hp).tab (hT p hp)).isCodeTable, rfl, #[], more, rfl, by rw [Array.empty_append]; exact hm⟩)
          · exact .inl (key b o hb e)
        · by_cases hb : b ∈ cs.map (·.2)
          · obtain ⟨p, hp, ep⟩ := List.mem_map.mp hb
            obtain ⟨more, hm⟩ := grown p hp
            rw [← ep]
            exact ⟨_, hm⟩
          · exact ⟨o, key b o hb e⟩
  cases hk : K.lookup a with
  | some o =>
    have e := KX a o hk
    rw [ha] at e
    cases e
    refine core (fun b => if b ∈ cs.map (·.2) then some (.tbl #[]) else none) (fun p hp => if_pos (memT p hp)) (fun b => ?_) (.inr ⟨_, vs.toArray, _, hk, rfl, rfl, rfl, by rw [List.size_toArray, lenV]; exact hl, by simpa using rv⟩) (fun b u z => ?_) (fun b z => ?_) fun z => absurd (show (if a ∈ cs.map (·.2) then some (HO.tbl #[]) else none) = none from if_neg aT) z
    · by_cases hb : b ∈ cs.map (·.2)
      · exact .inr (.inl hb)
      · exact .inl (if_neg hb)
    · by_cases hb : b ∈ cs.map (·.2)
      · have z' := (if_pos hb).symm.trans z
        cases z'
        exact isT b hb
      · have z' := (if_neg hb).symm.trans z
        cases z'
    · by_cases hb : b ∈ cs.map (·.2)
      · exact .inr hb
      · exact absurd (if_neg hb) z
  | none =>
    refine core (fun b => if b = a then some (.frz { cls := .type "list", data := .seq vs.toArray } (.lst (ns.map V.int))) else if b ∈ cs.map (·.2) then some (.tbl #[]) else none) (fun p hp => (if_neg (show ¬ p.2 = a from fun z => aT (by rw [← z]; exact memT p hp))).trans (if_pos (memT p hp))) (fun b => ?_)
      (.inl (.inr ⟨{ cls := .type "list", data := .seq vs.toArray }, if_pos rfl⟩)) (fun b u z => ?_) (fun b z => ?_) fun _ => hk
    · by_cases hb : b = a
      · exact .inr (.inr ⟨_, _, if_pos hb⟩)
      · by_cases hb2 : b ∈ cs.map (·.2)
        · exact .inr (.inl hb2)
        · exact .inl ((if_neg hb).trans (if_neg hb2))
    · by_cases hb : b = a
      · have z' := (if_pos hb).symm.trans z
        cases z'
        rw [hb]
        exact ⟨ha, by rw [List.length_map]; exact hl, vs, _, rv, ha⟩
      · have z1 := (if_neg hb).symm.trans z
        by_cases hb2 : b ∈ cs.map (·.2)
        · have z' := (if_pos hb2).symm.trans z1
          cases z'
          exact isT b hb2
        · have z' := (if_neg hb2).symm.trans z1
          cases z'
    · by_cases hb : b = a
      · exact .inl hb
      · by_cases hb2 : b ∈ cs.map (·.2)
        · exact .inr hb2
        · exact absurd ((if_neg hb).trans (if_neg hb2)) z
theorem walk_ofL {l : PySem.W.OpenLaw} {n k : Nat} {q : Program} {loose : List Str} {XP : (Str → Option Value) → Heap → Prop} {YP : World → Heap → Prop} {d : DefRec} {CX : World → CXT}
    (hn : l.most = some n) (hn2 : n ≤ sizeLine) (hdf : d.params.defaults = []) (hr : Room k callerA)
    (F : ∀ (w : World) (mg : Str → Option Value) (fa : Addr) (h : Heap), YP w h → h.Ns mainGlobals mg → mg d.name = some (.ref fa) →
      ∃ (K : PySem.W.Frag) (cs : List (Addr × Addr)) (sp : Sp), K.In h ∧ (∀ p ∈ cs, h.get? p.2 = some { cls := .none, data := .fields #[] }) ∧ (∀ p ∈ cs, K.lookup p.2 = none) ∧ (∀ p ∈ cs, PySem.W.CodeHd h p.1 p.2) ∧
        (∀ (H : Hp) (a : Addr) (ns : List Int), ns.length ≤ n → (∀ p ∈ cs, H p.2 = some (.tbl #[])) → SqL K H a (ns.map V.int) → sp [.ref a] H (fun v _ => v = .bl true) fun _ _ _ => False) ∧
        ∀ base : Heap, K.In base → base.Ns mainGlobals mg → (∀ p ∈ cs, TabB base mg p.1 p.2) → Cq.FnG l.prog w K mg base (CX w) k fa sp)
    (hCX : ∀ (w : World) (H : Hp) (s : Shared) (e : Value) (s' : Shared), CX w [] H s (fun _ _ _ => False) e s' → False) :
    PySem.W.WalkO q loose XP YP l.row.toRowW d [] (fun f vs => PySem.call f vs) := by
  refine Att.attach_call hn hdf fun w s₀ s₁ mg mb fa o pm cd doc a vs ns G Y ho hd hcd hmg hobj hints hlen hg => ?_
  obtain ⟨K, cs, sp, KX, hT, nT, C, hsp, hF⟩ := F w mg fa _ Y G.T.g hmg
  exact law_callL KX G.T.g G.T.b G.T.builtins G.T.nolimit hg hT nT C G.T.bmain hobj hints (Nat.le_trans hlen hn2) hr hF (fun H hH hS => hsp H a ns hlen hH hS) fun H e s' => hCX w H s₁ e s'
end L2

set_option Elab.async false
set_option linter.all false
set_option maxRecDepth 100000
set_option maxHeartbeats 4000000
namespace Cq.Sh
open PySem PySem.Spec PyProof.Rows L2 Cq
/-! what the defs mean, for several laws -/
/-! x_law_source -/
def m_x_law_source : M Fl :=
  ((mLst (mCons (mVa (mCall dMax2 (mCons (mVa (M.ret (.int 0))) (mCons (mVa (mOp2 dSub (mNm 0) (mVa (mOp2 dPow (mVa (M.ret (.int 10))) (mVa (M.ret (.int 18))))))) (M.ret []))))) (mCons (mVa (mOp2 dAdd (mVa (mOp2 dMod (mNm 0) (mVa (M.ret (.int 2147483629))))) (mVa (M.ret (.int 1))))) (mCons (mVa (M.ret (.int 0))) (M.ret []))))).bind fun d => M.ret (.rn d))
def f_x_law_source : Fn := runDef [.im] 1 m_x_law_source
/-! x_law_cell -/
def m_x_law_cell : M Fl :=
  (mSeq (((mOp2 (dI fun i j => decide (i < j)) (mNm 1) (mVa (mCall dLen (mCons (mNm 0) (M.ret []))))).bind dBool).bind fun k => if k = true then ((mOp2 dIx (mNm 0) (mNm 1)).bind fun d => M.ret (.rt d)) else (M.ret .nx))
    ((M.ret (.int 0)).bind fun d => M.ret (.rt d)))
def f_x_law_cell : Fn := runDef [.im, .im] 2 m_x_law_cell
/-! x_law_draw -/
def m_x_law_draw : M Fl :=
  (mSeq (((mOp2 (dI fun i j => decide (j < i)) (mVa (mOp2 dIx (mNm 0) (mVa (M.ret (.int 0))))) (mVa (M.ret (.int 0)))).bind dBool).bind fun k => if k = true then (mSeq (mSet 2 (mOp2 dMod (mVa (mOp2 dIx (mNm 0) (mVa (M.ret (.int 0))))) (mNm 1)))
    (mSeq (mSetIx "list" 0 fSetL (mOp2 dDiv (mVa (mOp2 dIx (mNm 0) (mVa (M.ret (.int 0))))) (mNm 1)) (M.ret (.int 0)))
    ((mFz 2).bind fun d => M.ret (.rt d)))) else (M.ret .nx))
    (mSeq (mSetIx "list" 0 fSetL (mOp2 dAdd (mVa (mOp2 dIx (mNm 0) (mVa (M.ret (.int 2))))) (mVa (M.ret (.int 1)))) (M.ret (.int 2)))
    (mSeq (mSetIx "list" 0 fSetL (mOp2 dMod (mVa (mOp2 dAdd (mVa (mOp2 dAdd (mVa (mOp2 dMul (mVa (mOp2 dIx (mNm 0) (mVa (M.ret (.int 1))))) (mVa (M.ret (.int 48271))))) (mVa (mOp2 dMul (mVa (M.ret (.int 1009))) (mVa (mOp2 dIx (mNm 0) (mVa (M.ret (.int 2))))))))) (mVa (M.ret (.int 7))))) (mVa (M.ret (.int 2147483647)))) (M.ret (.int 1)))
    (mSeq (mSet 3 (mOp2 dMod (mVa (mOp2 dAdd (mVa (mOp2 dAdd (mVa (mOp2 dMul (mVa (mOp2 dIx (mNm 0) (mVa (M.ret (.int 1))))) (mVa (mOp2 dIx (mNm 0) (mVa (M.ret (.int 1))))))) (mVa (mOp2 dMul (mVa (M.ret (.int 69621))) (mVa (mOp2 dIx (mNm 0) (mVa (M.ret (.int 1))))))))) (mVa (M.ret (.int 11))))) (mVa (M.ret (.int 2147483629)))))
    (mSeq (mSet 3 (mOp2 dMod (mVa (mOp2 dAdd (mVa (mOp2 dMul (mNm 3) (mNm 3))) (mVa (mOp2 dMul (mVa (M.ret (.int 40014))) (mNm 3))))) (mVa (M.ret (.int 2147483587)))))
    ((mOp2 dMod (mVa (mOp2 dDiv (mNm 3) (mVa (M.ret (.int 16))))) (mNm 1)).bind fun d => M.ret (.rt d)))))))
def f_x_law_draw : Fn := runDef [.mu, .im] 4 m_x_law_draw
/-! x_law_choose -/
def m_x_law_choose : M Fl :=
  ((mOp2 dIx (mNm 1) (mVa ((mCons (mNm 0) (mCons (mVa (mCall dLen (mCons (mNm 1) (M.ret [])))) (M.ret []))).bind (mCallF [.mu, .im] f_x_law_draw)))).bind fun d => M.ret (.rt d))
def f_x_law_choose : Fn := runDef [.mu, .ro] 2 m_x_law_choose
/-! x_law_lines -/
def c_x_law_lines_1 : M Bool :=
  ((mOp2 dEq (mVa (mSl (mNm 10) (M.ret none) ((M.ret (.int 3)).bind dSome))) (mNm 8)).bind dBool)
def i_x_law_lines_2 : M (List D) :=
  (mSrc rng1 (mCons (mNm 5) (M.ret [])))
def b_x_law_lines_3 : M Fl :=
  (mSeq (mSet 8 (mTup (mCons (mVa ((mCons (mNm 0) (mCons (mNm 6) (M.ret []))).bind (mCallF [.mu, .ro] f_x_law_choose))) (mCons (mVa ((mCons (mNm 0) (mCons (mVa (mOp2 dAdd (mNm 2) (mVa (M.ret (.int 1))))) (M.ret []))).bind (mCallF [.mu, .im] f_x_law_draw))) (mCons (mVa ((mCons (mNm 0) (mCons (mVa (mOp2 dAdd (mNm 2) (mVa (M.ret (.int 1))))) (M.ret []))).bind (mCallF [.mu, .im] f_x_law_draw))) (M.ret []))))))
    (mSeq (mSet 9 ((mCons (mNm 0) (mCons (mVa (mLst (mCons (mVa (M.ret (.int 1))) (mCons (mVa (M.ret (.int 2))) (mCons (mVa (mOp2 dAdd (mVa (M.ret (.int 1))) (mVa ((mCons (mNm 0) (mCons (mNm 3) (M.ret []))).bind (mCallF [.mu, .im] f_x_law_draw))))) (mCons (mNm 3) (M.ret []))))))) (M.ret []))).bind (mCallF [.mu, .ro] f_x_law_choose)))
    (((mOp2 dEq (mVa (mLc (some 4) (mItN 4) [10] (tgNm 10) c_x_law_lines_1 (mFz 10))) (mVa (mLst (M.ret [])))).bind dBool).bind fun k => if k = true then ((mWm "list" 4 fAppend (mCons (mVa (mOp2 dAdd (mNm 8) (mVa (mTup (mCons (mNm 9) (M.ret [])))))) (M.ret []))).bind fun _ => M.ret .nx) else (M.ret .nx))))
def m_x_law_lines : M Fl :=
  (mSeq (mParN 4 5 (mLst (M.ret [])) ((mCons (mNm 0) (mCons (mVa (mOp2 dAdd (mNm 1) (mVa (M.ret (.int 1))))) (M.ret []))).bind (mCallF [.mu, .im] f_x_law_draw)))
    (mSeq (mSet 6 ((mCons (mNm 0) (mCons (mVa (mLst (mCons (mVa (mLst (mCons (mVa (M.ret (.str "A"))) (M.ret [])))) (mCons (mVa (mLst (mCons (mVa (M.ret (.str "A"))) (mCons (mVa (M.ret (.str "B"))) (M.ret []))))) (mCons (mVa (mLst (mCons (mVa (M.ret (.str "A"))) (mCons (mVa (M.ret (.str "B"))) (mCons (mVa (M.ret (.str "C"))) (M.ret [])))))) (mCons (mVa (mLst (mCons (mVa (M.ret (.str "B"))) (mCons (mVa (M.ret (.str "C"))) (M.ret []))))) (M.ret []))))))) (M.ret []))).bind (mCallF [.mu, .ro] f_x_law_choose)))
    (mSeq (mFor none i_x_law_lines_2 (tgNm 7) b_x_law_lines_3)
    ((mFz 4).bind fun d => M.ret (.rt d)))))
def f_x_law_lines : Fn := runDef [.mu, .im, .im, .im] 11 m_x_law_lines
/-! word_number -/
def e_word_number_1 : M D :=
  (mOp2 dIn (mNm 1) (mVa (M.ret (.str "0123456789"))))
def m_word_number : M Fl :=
  (mSeq ((mOrB (((mChain (dI fun i j => decide (i ≤ j)) (dI fun i j => decide (i ≤ j)) (mVa (M.ret (.int 1))) (mVa (mCall dLen (mCons (mNm 0) (M.ret [])))) (mVa (M.ret (.int 5)))).bind dBool).bind fun c => M.ret (!c)) (((mCall dAll (mCons (mVa (mLc (some 0) (mItN 0) [1] (tgNm 1) (M.ret true) e_word_number_1)) (M.ret []))).bind dBool).bind fun c => M.ret (!c))).bind fun k => if k = true then ((mOp1 dNeg (mVa (M.ret (.int 1)))).bind fun d => M.ret (.rt d)) else (M.ret .nx))
    ((mCall dInt (mCons (mNm 0) (M.ret []))).bind fun d => M.ret (.rt d)))
def f_word_number : Fn := runDef [.im] 2 m_word_number
/-! row_of_line -/
def i_row_of_line_1 : M (List D) :=
  (mIt (mSl (mNm 1) ((M.ret (.int 1)).bind dSome) (M.ret none)))
def e_row_of_line_2 : M D :=
  ((mCons (mNm 2) (M.ret [])).bind (mCallF [.im] f_word_number))
def m_row_of_line : M Fl :=
  (mSeq (mSet 1 (mMtK "str" fSplit (mNm 0) (mCons (mVa (M.ret (.str " "))) (M.ret []))))
    ((mOp2 dAdd (mVa (mTup (mCons (mVa (mOp2 dIx (mNm 1) (mVa (M.ret (.int 0))))) (M.ret [])))) (mVa (mCall dTuple (mCons (mVa (mLc none i_row_of_line_1 [2] (tgNm 2) (M.ret true) e_row_of_line_2)) (M.ret []))))).bind fun d => M.ret (.rt d)))
def f_row_of_line : Fn := runDef [.im] 3 m_row_of_line
/-! is_kind -/
def m_is_kind : M Fl :=
  ((mAndD (mIsi [0] .str (mNm 0)) (mOp2 dIn (mNm 0) (mVa (M.ret (.tup ((["A", "B", "C"] : List Str).map .str)))))).bind fun d => M.ret (.rt d))
def f_is_kind : Fn := runDef [.im] 1 m_is_kind
/-! is_integer -/
def m_is_integer : M Fl :=
  ((mAndD (mIsi [0] .int (mNm 0)) (mNotD (mIsi [0] .bool (mNm 0)))).bind fun d => M.ret (.rt d))
def f_is_integer : Fn := runDef [.im] 1 m_is_integer
/-! is_between -/
def m_is_between : M Fl :=
  ((mAndD ((mCons (mNm 0) (M.ret [])).bind (mCallF [.im] f_is_integer)) (mChain (dI fun i j => decide (i ≤ j)) (dI fun i j => decide (i ≤ j)) (mNm 1) (mNm 0) (mNm 2))).bind fun d => M.ret (.rt d))
def f_is_between : Fn := runDef [.im, .im, .im] 3 m_is_between
/-! is_key -/
def m_is_key : M Fl :=
  (mSeq ((mOrB (((mIsi [0] .tuple (mNm 0)).bind dBool).bind fun c => M.ret (!c)) (mOrB ((mOp2 dNe (mVa (mCall dLen (mCons (mNm 0) (M.ret [])))) (mVa (M.ret (.int 3)))).bind dBool) ((((mCons (mVa (mOp2 dIx (mNm 0) (mVa (M.ret (.int 0))))) (M.ret [])).bind (mCallF [.im] f_is_kind)).bind dBool).bind fun c => M.ret (!c)))).bind fun k => if k = true then ((M.ret (.bl false)).bind fun d => M.ret (.rt d)) else (M.ret .nx))
    ((mAndD ((mCons (mVa (mOp2 dIx (mNm 0) (mVa (M.ret (.int 1))))) (mCons (mVa (M.ret (.int 0))) (mCons (mVa (M.ret (.int 99))) (M.ret [])))).bind (mCallF [.im, .im, .im] f_is_between)) ((mCons (mVa (mOp2 dIx (mNm 0) (mVa (M.ret (.int 2))))) (mCons (mVa (M.ret (.int 0))) (mCons (mVa (M.ret (.int 99))) (M.ret [])))).bind (mCallF [.im, .im, .im] f_is_between))).bind fun d => M.ret (.rt d)))
def f_is_key : Fn := runDef [.im] 1 m_is_key
/-! is_row -/
def m_is_row : M Fl :=
  (mSeq ((mOrB (((mIsi [0] .tuple (mNm 0)).bind dBool).bind fun c => M.ret (!c)) ((mOp2 dNe (mVa (mCall dLen (mCons (mNm 0) (M.ret [])))) (mVa (M.ret (.int 4)))).bind dBool)).bind fun k => if k = true then ((M.ret (.bl false)).bind fun d => M.ret (.rt d)) else (M.ret .nx))
    ((mAndD ((mCons (mVa (mSl (mNm 0) (M.ret none) ((M.ret (.int 3)).bind dSome))) (M.ret [])).bind (mCallF [.im] f_is_key)) ((mCons (mVa (mOp2 dIx (mNm 0) (mVa (M.ret (.int 3))))) (mCons (mVa (M.ret (.int 1))) (mCons (mVa (M.ret (.int 10000))) (M.ret [])))).bind (mCallF [.im, .im, .im] f_is_between))).bind fun d => M.ret (.rt d)))
def f_is_row : Fn := runDef [.im] 1 m_is_row
/-! are_rows -/
def e_are_rows_1 : M D :=
  ((mCons (mNm 1) (M.ret [])).bind (mCallF [.im] f_is_row))
def e_are_rows_2 : M D :=
  (mSl (mNm 1) (M.ret none) ((M.ret (.int 3)).bind dSome))
def e_are_rows_3 : M D :=
  (mOp2 dEq (mVa (mMtK "list" fCount (mNm 2) (mCons (mNm 3) (M.ret [])))) (mVa (M.ret (.int 1))))
def m_are_rows : M Fl :=
  (mSeq ((mOrB ((mOp2 (dI fun i j => decide (j < i)) (mVa (mCall dLen (mCons (mNm 0) (M.ret [])))) (mVa (M.ret (.int 12)))).bind dBool) (((mCall dAll (mCons (mVa (mLc (some 0) (mItN 0) [1] (tgNm 1) (M.ret true) e_are_rows_1)) (M.ret []))).bind dBool).bind fun c => M.ret (!c))).bind fun k => if k = true then ((M.ret (.bl false)).bind fun d => M.ret (.rt d)) else (M.ret .nx))
    (mSeq (mSet 2 (mLc (some 0) (mItN 0) [1] (tgNm 1) (M.ret true) e_are_rows_2))
    ((mCall dAll (mCons (mVa (mLc (some 2) (mItN 2) [3] (tgNm 3) (M.ret true) e_are_rows_3)) (M.ret []))).bind fun d => M.ret (.rt d))))
def f_are_rows : Fn := runDef [.im] 4 m_are_rows
/-! Table___init -/
def m_Table___init : M Fl :=
  (mSeq (((((mCons (mNm 1) (M.ret [])).bind (mCallF [.im] f_are_rows)).bind dBool).bind fun c => M.ret (!c)).bind fun k => if k = true then (mRaise 11) else (M.ret .nx))
    (mStF [0] 0 0 (mCall dTuple (mCons (mVa (mCall dSorted (mCons (mNm 1) (M.ret [])))) (M.ret [])))))
def f_Table___init : Fn := runDef [.mu, .im] 2 m_Table___init
/-! Table_text -/
def i_Table_text_1 : M (List D) :=
  (mIt ((mNm 0).bind (mFld [0] 0)))
def e_Table_text_2 : M D :=
  (mJ [(mOp1 dFmt (mNm 1)), (M.ret (.str " ")), (mOp1 dFmt (mNm 2)), (M.ret (.str " ")), (mOp1 dFmt (mNm 3)), (M.ret (.str " ")), (mOp1 dFmt (mNm 4)), (M.ret (.str "
"))] Str.empty)
def m_Table_text : M Fl :=
  ((mMtK "str" fJoin (mVa (M.ret (.str ""))) (mCons (mVa (mLc none i_Table_text_1 [1, 2, 3, 4] (tgTup 4 (tgCons (tgNm 1) (tgCons (tgNm 2) (tgCons (tgNm 3) (tgCons (tgNm 4) tgNil))))) (M.ret true) e_Table_text_2)) (M.ret []))).bind fun d => M.ret (.rt d))
def f_Table_text : Fn := runDef [.im] 5 m_Table_text
/-! Table_read -/
def i_Table_read_1 : M (List D) :=
  (mIt (mSl (mVa (mMtK "str" fSplit (mNm 1) (mCons (mVa (M.ret (.str "
"))) (M.ret [])))) (M.ret none) ((mOp1 dNeg (mVa (M.ret (.int 1)))).bind dSome)))
def e_Table_read_2 : M D :=
  ((mCons (mNm 3) (M.ret [])).bind (mCallF [.im] f_row_of_line))
def m_Table_read : M Fl :=
  (mSeq ((mOrB (((mIsi [0] .str (mNm 1)).bind dBool).bind fun c => M.ret (!c)) (mAndB ((mOp2 dNe (mNm 1) (mVa (M.ret (.str "")))).bind dBool) (((mMtK "str" fEndswith (mNm 1) (mCons (mVa (M.ret (.str "
"))) (M.ret []))).bind dBool).bind fun c => M.ret (!c)))).bind fun k => if k = true then (mRaise 14) else (M.ret .nx))
    (mSeq (mSetN 2 (mLc none i_Table_read_1 [3] (tgNm 3) (M.ret true) e_Table_read_2))
    (mSeq (((((mCons (mNm 2) (M.ret [])).bind (mCallF [.im] f_are_rows)).bind dBool).bind fun c => M.ret (!c)).bind fun k => if k = true then (mRaise 14) else (M.ret .nx))
    (mSeq (mSet 4 ((mGlo 0 0).bind fun _ => mMkS 0 f_Table___init (mFz 2)))
    (mSeq (((mOp2 dNe (mVa ((mNm 4).bind (mMth0 [0] [.im] (fun _ => f_Table_text)))) (mNm 1)).bind dBool).bind fun k => if k = true then (mRaise 14) else (M.ret .nx))
    ((mFz 4).bind fun d => M.ret (.rt d)))))))
def f_Table_read : Fn := runDef [.im, .im] 5 m_Table_read
/-! x_law_text -/
def e_x_law_text_1 : M D :=
  (mCall dStr (mCons (mNm 1) (M.ret [])))
def i_x_law_text_2 : M (List D) :=
  (mIt (mCall dSorted (mCons (mNm 0) (M.ret []))))
def e_x_law_text_3 : M D :=
  (mOp2 dAdd (mVa (mMtK "str" fJoin (mVa (M.ret (.str " "))) (mCons (mVa (mLc (some 2) (mItN 2) [1] (tgNm 1) (M.ret true) e_x_law_text_1)) (M.ret [])))) (mVa (M.ret (.str "
"))))
def m_x_law_text : M Fl :=
  ((mMtK "str" fJoin (mVa (M.ret (.str ""))) (mCons (mVa (mLc none i_x_law_text_2 [2] (tgNm 2) (M.ret true) e_x_law_text_3)) (M.ret []))).bind fun d => M.ret (.rt d))
def f_x_law_text : Fn := runDef [.im] 3 m_x_law_text
/-! x_law_is_equal -/
/-! table_of -/
def m_table_of : M Fl :=
  (mSeq (((((mCons (mNm 0) (M.ret [])).bind (mCallF [.im] f_are_rows)).bind dBool).bind fun c => M.ret (!c)).bind fun k => if k = true then (mRaise 18) else (M.ret .nx))
    ((mMkS 0 f_Table___init (mFz 0)).bind fun d => M.ret (.rt d)))
def f_table_of : Fn := runDef [.im] 1 m_table_of
/-! Table_scaled -/
def i_Table_scaled_1 : M (List D) :=
  (mIt ((mNm 0).bind (mFld [0] 0)))
def e_Table_scaled_2 : M D :=
  (mOp2 dAdd (mVa (mSl (mNm 2) (M.ret none) ((M.ret (.int 3)).bind dSome))) (mVa (mTup (mCons (mVa (mOp2 dMul (mNm 1) (mVa (mOp2 dIx (mNm 2) (mVa (M.ret (.int 3))))))) (M.ret [])))))
def m_Table_scaled : M Fl :=
  (mSeq (((((mCons (mNm 1) (mCons (mVa (M.ret (.int 1))) (mCons (mVa (M.ret (.int 100))) (M.ret [])))).bind (mCallF [.im, .im, .im] f_is_between)).bind dBool).bind fun c => M.ret (!c)).bind fun k => if k = true then (mRaise 13) else (M.ret .nx))
    (((mCons (mVa (mLc none i_Table_scaled_1 [2] (tgNm 2) (M.ret true) e_Table_scaled_2)) (M.ret [])).bind (mCallF [.im] f_table_of)).bind fun d => M.ret (.rt d)))
def f_Table_scaled : Fn := runDef [.im, .im] 3 m_Table_scaled
/-! Table_rows -/
def m_Table_rows : M Fl :=
  (((mNm 0).bind (mFld [0] 0)).bind fun d => M.ret (.rt d))
def f_Table_rows : Fn := runDef [.im] 1 m_Table_rows
/-! Table___getitem -/
/-! need_table -/
def m_need_table : M Fl :=
  ((((mIsi [0] (.cls 0) (mNm 0)).bind dBool).bind fun c => M.ret (!c)).bind fun k => if k = true then (mRaise 15) else (M.ret .nx))
def f_need_table : Fn := runDef [.im] 1 m_need_table
/-! shifted -/
def e_shifted_1 : M D :=
  (mTup (mCons (mNm 2) (mCons (mVa (mOp2 dAdd (mNm 3) (mNm 1))) (mCons (mVa (mOp2 dAdd (mNm 4) (mNm 1))) (mCons (mNm 5) (M.ret []))))))
def m_shifted : M Fl :=
  ((mLc (some 0) (mItN 0) [2, 3, 4, 5] (tgTup 4 (tgCons (tgNm 2) (tgCons (tgNm 3) (tgCons (tgNm 4) (tgCons (tgNm 5) tgNil))))) (M.ret true) e_shifted_1).bind fun d => M.ret (.rt d))
def f_shifted : Fn := runDef [.im, .im] 6 m_shifted
/-! greatest -/
def e_greatest_1 : M D :=
  (mCall dMax2 (mCons (mVa (mOp2 dIx (mNm 1) (mVa (M.ret (.int 1))))) (mCons (mVa (mOp2 dIx (mNm 1) (mVa (M.ret (.int 2))))) (M.ret []))))
def m_greatest : M Fl :=
  ((mMaxDef (mCons (mVa (mLc (some 0) (mItN 0) [1] (tgNm 1) (M.ret true) e_greatest_1)) (M.ret [])) (mOp1 dNeg (mVa (M.ret (.int 1))))).bind fun d => M.ret (.rt d))
def f_greatest : Fn := runDef [.im] 2 m_greatest
/-! Table___or -/
def m_Table___or : M Fl :=
  (mSeq (((mCons (mNm 1) (M.ret [])).bind (mCallF [.im] f_need_table)).bind fun _ => M.ret .nx)
    (((mCons (mVa (mOp2 dAdd (mVa (mCall dList (mCons (mVa ((mNm 0).bind (mFld [0] 0))) (M.ret [])))) (mVa ((mCons (mVa ((mNm 1).bind (mProp [0] .im (fun _ => f_Table_rows)))) (mCons (mVa (mOp2 dAdd (mVa ((mCons (mVa ((mNm 0).bind (mFld [0] 0))) (M.ret [])).bind (mCallF [.im] f_greatest))) (mVa (M.ret (.int 1))))) (M.ret []))).bind (mCallF [.im, .im] f_shifted))))) (M.ret [])).bind (mCallF [.im] f_table_of)).bind fun d => M.ret (.rt d)))
def f_Table___or : Fn := runDef [.im, .im] 2 m_Table___or
/-! paired -/
def b_paired_1 : M Fl :=
  (((mOp2 dEq (mVa (mOp2 dIx (mNm 7) (mVa (M.ret (.int 0))))) (mNm 3)).bind dBool).bind fun k => if k = true then ((mWm "list" 2 fAppend (mCons (mVa (mTup (mCons (mNm 3) (mCons (mVa (mOp2 dAdd (mVa (mOp2 dMul (mVa (M.ret (.int 10))) (mNm 4))) (mVa (mOp2 dIx (mNm 7) (mVa (M.ret (.int 1))))))) (mCons (mVa (mOp2 dAdd (mVa (mOp2 dMul (mVa (M.ret (.int 10))) (mNm 5))) (mVa (mOp2 dIx (mNm 7) (mVa (M.ret (.int 2))))))) (mCons (mVa (mOp2 dMul (mNm 6) (mVa (mOp2 dIx (mNm 7) (mVa (M.ret (.int 3))))))) (M.ret []))))))) (M.ret []))).bind fun _ => M.ret .nx) else (M.ret .nx))
def b_paired_2 : M Fl :=
  (mFor (some 1) (mItN 1) (tgNm 7) b_paired_1)
def m_paired : M Fl :=
  (mSeq (mSetN 2 (mLst (M.ret [])))
    (mSeq (mFor (some 0) (mItN 0) (tgTup 4 (tgCons (tgNm 3) (tgCons (tgNm 4) (tgCons (tgNm 5) (tgCons (tgNm 6) tgNil))))) b_paired_2)
    ((mFz 2).bind fun d => M.ret (.rt d))))
def f_paired : Fn := runDef [.im, .im] 8 m_paired
/-! Table___mul -/
def m_Table___mul : M Fl :=
  (mSeq (((mCons (mNm 1) (M.ret [])).bind (mCallF [.im] f_need_table)).bind fun _ => M.ret .nx)
    (mSeq ((mOrB ((mOp2 (dI fun i j => decide (j < i)) (mVa ((mCons (mVa ((mNm 0).bind (mFld [0] 0))) (M.ret [])).bind (mCallF [.im] f_greatest))) (mVa (M.ret (.int 9)))).bind dBool) ((mOp2 (dI fun i j => decide (j < i)) (mVa ((mCons (mVa ((mNm 1).bind (mProp [0] .im (fun _ => f_Table_rows)))) (M.ret [])).bind (mCallF [.im] f_greatest))) (mVa (M.ret (.int 9)))).bind dBool)).bind fun k => if k = true then (mRaise 18) else (M.ret .nx))
    (((mCons (mVa ((mCons (mVa ((mNm 0).bind (mFld [0] 0))) (mCons (mVa ((mNm 1).bind (mProp [0] .im (fun _ => f_Table_rows)))) (M.ret []))).bind (mCallF [.im, .im] f_paired))) (M.ret [])).bind (mCallF [.im] f_table_of)).bind fun d => M.ret (.rt d))))
def f_Table___mul : Fn := runDef [.im, .im] 2 m_Table___mul
/-! added -/
def e_added_1 : M D :=
  (mTup (mCons (mVa (mSlK (mNm 3) (M.ret none) ((M.ret (.int 3)).bind dSome))) (mCons (mVa (mOp2 dIx (mNm 3) (mVa (M.ret (.int 3))))) (M.ret []))))
def b_added_2 : M Fl :=
  (mSetIx "dict" 2 fSetD (mOp2 dAdd (mVa (mWm "dict" 2 fGet (mCons (mVa (mSlK (mNm 3) (M.ret none) ((M.ret (.int 3)).bind dSome))) (mCons (mVa (M.ret (.int 0))) (M.ret []))))) (mVa (mOp2 dIx (mNm 3) (mVa (M.ret (.int 3)))))) (mSlK (mNm 3) (M.ret none) ((M.ret (.int 3)).bind dSome)))
def e_added_3 : M D :=
  (mOp2 dAdd (mNm 4) (mVa (mTup (mCons (mNm 5) (M.ret [])))))
def m_added : M Fl :=
  (mSeq (mSetN 2 (mCall dDict (mCons (mVa (mLc (some 0) (mItN 0) [3] (tgNm 3) (M.ret true) e_added_1)) (M.ret []))))
    (mSeq (mFor (some 1) (mItN 1) (tgNm 3) b_added_2)
    ((mLcI 2 [4, 5] (tgTup 2 (tgCons (tgNm 4) (tgCons (tgNm 5) tgNil))) e_added_3).bind fun d => M.ret (.rt d))))
def f_added : Fn := runDef [.im, .im] 6 m_added
/-! Table___add -/
def m_Table___add : M Fl :=
  (mSeq (((mCons (mNm 1) (M.ret [])).bind (mCallF [.im] f_need_table)).bind fun _ => M.ret .nx)
    (((mCons (mVa ((mCons (mVa ((mNm 0).bind (mFld [0] 0))) (mCons (mVa ((mNm 1).bind (mProp [0] .im (fun _ => f_Table_rows)))) (M.ret []))).bind (mCallF [.im, .im] f_added))) (M.ret [])).bind (mCallF [.im] f_table_of)).bind fun d => M.ret (.rt d)))
def f_Table___add : Fn := runDef [.im, .im] 2 m_Table___add
end Cq.Sh

set_option Elab.async false
set_option linter.all false
set_option maxRecDepth 100000
set_option maxHeartbeats 1000000
namespace Cq
open PySem PySem.Spec PyProof.Rows L2
/-! ### list comprehensions of two clauses, without tests -/
section
variable {K : Frag} {σ : L2.St} {F H F' H' : Hp} {g g' : Gm}
end
/-- items that nothing changes -/
def relR (K : Frag) : Rl (List D) It := fun _ _ F' _ _ ds J => Items K F' (fun _ => True) J ds
section
variable {X : Cx} {W : WX} {pos : Pos} {σ : L2.St} {F H F0 H0 : Hp} {g g0 : Gm}
def SR (X : Cx) (W : WX) (tg iter : Expr) (m : M (List D)) : Prop := PI X tg iter (tG X.K W (relR X.K) m)
end
end Cq

set_option Elab.async false
set_option linter.all false
set_option maxRecDepth 100000
set_option maxHeartbeats 1000000
namespace Cq
open PySem PySem.Spec PyProof.Rows L2
/-! ### match of a text against written texts -/
section
variable {X : Cx} {W : WX} {pos : Pos} {σ : L2.St} {F H F0 H0 : Hp} {g g0 : Gm}
/-- the clauses, as the text has them -/
inductive CsOk (X : Cx) (W : WX) : List MatchCase → List (Str × M Fl) → Prop
  | nil : CsOk X W [] []
  | cons {c : Str} {body : List Stmt} {m : M Fl} {rest : List MatchCase} {r : List (Str × M Fl)} {k : Nat} {p1 p2 : Pos} : SSs X W body m → CsOk X W rest r → CsOk X W (⟨.MatchValue (.Constant (.str c) k p1) p2, none, body⟩ :: rest) ((c, m) :: r)
end
end Cq

set_option Elab.async false
set_option linter.all false
set_option maxRecDepth 100000
namespace Cq
open PySem PySem.Spec PyProof.Rows L2
/-! ### a list unpacked into names -/
end Cq

set_option Elab.async false
set_option linter.all false
set_option maxRecDepth 100000
namespace Cq
open PySem PySem.Spec PyProof.Rows L2
/-! ### an expression with two rules: which one holds is decided by what stands in a slot -/
def insAt (i : Nat) (g : Gm) : Bool := match g[i]? with
  | some (.im (.ins _ _)) => true
  | _ => false
def mPik {α : Type} (i : Nat) (m1 m2 : M α) : M α := fun g => if insAt i g = true then m1 g else m2 g
theorem se_pick {X : Cx} {W : WX} {e : Expr} {m1 m2 : M D} (i : Nat) (h1 : SE X W e m1) (h2 : SE X W e m2) : SE X W e (mPik i m1 m2) := ⟨fun pins s σ H Q I q => by
  obtain ⟨F, g, S, q⟩ := q
  unfold mPik at q
  by_cases c : insAt i g = true
  · rw [if_pos c] at q
    exact h1.run pins s σ H Q I ⟨F, g, S, q⟩
  · rw [if_neg c] at q
    exact h2.run pins s σ H Q I ⟨F, g, S, q⟩⟩
end Cq

set_option Elab.async false
set_option linter.all false
set_option maxRecDepth 100000
set_option maxHeartbeats 4000000
namespace Cq.K08
open PySem PySem.Spec PyProof.Rows L2 Cq LamX Cq.Sh
def top (i : Nat) : Stmt := PySem.Challenge.pw_countalike_k08_whole_tables_put_together.main.body.getD i (.Pass ⟨0, 0, 0, 0⟩)
def mth (i j : Nat) : Stmt := match top i with
  | .ClassDef (body := b) .. => b.getD j (.Pass ⟨0, 0, 0, 0⟩)
  | s => s
def lamXs : List Str := ["_law_are_right"]
/-- what the head tells of the module -/
structure Gt (K : Frag) (mg : Str → Option Value) (base : Heap) : Prop where
  xm_10 : tExm [10, 11, 12, 13, 14, 15, 18] [10] K = true
  b_len : mg "len" = none
  b_min : mg "min" = none
  b_max : mg "max" = none
  b_range : mg "range" = none
  g_x_law_cell : mg "_law_cell" = some (.ref (He.ga K "_law_cell"))
  kp_x_law_cell : PySem.W.keepIn K (.ref (He.ga K "_law_cell")) = true
  g_x_law_source : mg "_law_source" = some (.ref (He.ga K "_law_source"))
  kp_x_law_source : PySem.W.keepIn K (.ref (He.ga K "_law_source")) = true
  k_str : KitOk K [0] .str
  b_str : mg "str" = none
  b_isinstance : mg "isinstance" = none
  ex_NoText : (He.Fa.exc "NoText").ok K = true
  g_NoText : mg "NoText" = some (.ref (He.ga K "NoText"))
  c_DIGITS : ∃ t, mg "DIGITS" = some (.str "0123456789" t)
  b_all : mg "all" = none
  b_int : mg "int" = none
  g_word_number : mg "word_number" = some (.ref (He.ga K "word_number"))
  kp_word_number : PySem.W.keepIn K (.ref (He.ga K "word_number")) = true
  b_tuple : mg "tuple" = none
  g_row_of_line : mg "row_of_line" = some (.ref (He.ga K "row_of_line"))
  kp_row_of_line : PySem.W.keepIn K (.ref (He.ga K "row_of_line")) = true
  c_MOST_ROWS : ∃ t, mg "MOST_ROWS" = some (.int 12 t)
  k_tuple : KitOk K [0] .tuple
  t_KINDS : tTup "KINDS" ((["A", "B", "C"] : List Str).map He.Dv.str) K = true
  g_KINDS : mg "KINDS" = some (.ref (He.ga K "KINDS"))
  g_is_kind : mg "is_kind" = some (.ref (He.ga K "is_kind"))
  kp_is_kind : PySem.W.keepIn K (.ref (He.ga K "is_kind")) = true
  k_int : KitOk K [0] .int
  k_bool : KitOk K [0] .bool
  b_bool : mg "bool" = none
  g_is_integer : mg "is_integer" = some (.ref (He.ga K "is_integer"))
  kp_is_integer : PySem.W.keepIn K (.ref (He.ga K "is_integer")) = true
  c_MOST_VALUE : ∃ t, mg "MOST_VALUE" = some (.int 99 t)
  g_is_between : mg "is_between" = some (.ref (He.ga K "is_between"))
  kp_is_between : PySem.W.keepIn K (.ref (He.ga K "is_between")) = true
  g_is_key : mg "is_key" = some (.ref (He.ga K "is_key"))
  kp_is_key : PySem.W.keepIn K (.ref (He.ga K "is_key")) = true
  c_MOST_OFTEN : ∃ t, mg "MOST_OFTEN" = some (.int 10000 t)
  g_is_row : mg "is_row" = some (.ref (He.ga K "is_row"))
  kp_is_row : PySem.W.keepIn K (.ref (He.ga K "is_row")) = true
  g_are_rows : mg "are_rows" = some (.ref (He.ga K "are_rows"))
  kp_are_rows : PySem.W.keepIn K (.ref (He.ga K "are_rows")) = true
  ex_NoRows : (He.Fa.exc "NoRows").ok K = true
  g_NoRows : mg "NoRows" = some (.ref (He.ga K "NoRows"))
  b_sorted : mg "sorted" = none
  fl_0_kept : ∀ c ∈ ([0] : List Nat), Cls K (ca K c) ∧ NoAttr K (ca K c) (fname 0)
  mk_0 : Mk K (ca K 0) (He.ma K (ca K 0) "__init__")
  kp_Table : PySem.W.keepIn K (.ref (He.ga K "Table")) = true
  cl_0 : Cls K (ca K 0)
  me_Table_text : Meth K (ca K 0) "text" (He.ma K (ca K 0) "text")
  g_x_law_draw : mg "_law_draw" = some (.ref (He.ga K "_law_draw"))
  kp_x_law_draw : PySem.W.keepIn K (.ref (He.ga K "_law_draw")) = true
  g_x_law_choose : mg "_law_choose" = some (.ref (He.ga K "_law_choose"))
  kp_x_law_choose : PySem.W.keepIn K (.ref (He.ga K "_law_choose")) = true
  g_x_law_lines : mg "_law_lines" = some (.ref (He.ga K "_law_lines"))
  kp_x_law_lines : PySem.W.keepIn K (.ref (He.ga K "_law_lines")) = true
  g_x_law_text : mg "_law_text" = some (.ref (He.ga K "_law_text"))
  kp_x_law_text : PySem.W.keepIn K (.ref (He.ga K "_law_text")) = true
  cm_Table_read : ClX.CRead K (ca K 0) (.type "type") ∧ ClX.CMet K (ca K 0) (.type "type") "read" (He.ma K (ca K 0) "read") (cma K (ca K 0) "read")
  g_Table : mg "Table" = some (.ref (He.ga K "Table"))
  g_x_law_drawn : mg "_law_drawn" = some (.ref (He.ga K "_law_drawn"))
  kp_x_law_drawn : PySem.W.keepIn K (.ref (He.ga K "_law_drawn")) = true
  ld_x_law_are_right : LamD K "_law_are_right"
  k_Table : KitOk K [0] (.cls 0)
  me_Table___eq : Meth K (ca K 0) "__eq__" (He.ma K (ca K 0) "__eq__")
  pr_Table_rows : PropOf K (ca K 0) "rows" (He.ma K (ca K 0) "rows") (pga K (ca K 0) "rows")
  ex_NoTable : (He.Fa.exc "NoTable").ok K = true
  g_NoTable : mg "NoTable" = some (.ref (He.ga K "NoTable"))
  g_need_table : mg "need_table" = some (.ref (He.ga K "need_table"))
  kp_need_table : PySem.W.keepIn K (.ref (He.ga K "need_table")) = true
  ex_TooMuch : (He.Fa.exc "TooMuch").ok K = true
  g_TooMuch : mg "TooMuch" = some (.ref (He.ga K "TooMuch"))
  b_dict : mg "dict" = none
  g_added : mg "added" = some (.ref (He.ga K "added"))
  kp_added : PySem.W.keepIn K (.ref (He.ga K "added")) = true
  g_table_of : mg "table_of" = some (.ref (He.ga K "table_of"))
  kp_table_of : PySem.W.keepIn K (.ref (He.ga K "table_of")) = true
  me_Table___add : Meth K (ca K 0) "__add__" (He.ma K (ca K 0) "__add__")
  sf_0 : PySem.W.selfFirst K (ca K 0) = true
  nr_0_add : PySem.W.findIn K (.ref (ca K 0)) (PySem.dunderR "add") = some none
  g_x_law_of_rows : mg "_law_of_rows" = some (.ref (He.ga K "_law_of_rows"))
  kp_x_law_of_rows : PySem.W.keepIn K (.ref (He.ga K "_law_of_rows")) = true
  ne_0 : NeK K (ca K 0)
  b_list : mg "list" = none
  g_greatest : mg "greatest" = some (.ref (He.ga K "greatest"))
  kp_greatest : PySem.W.keepIn K (.ref (He.ga K "greatest")) = true
  g_shifted : mg "shifted" = some (.ref (He.ga K "shifted"))
  kp_shifted : PySem.W.keepIn K (.ref (He.ga K "shifted")) = true
  me_Table___or : Meth K (ca K 0) "__or__" (He.ma K (ca K 0) "__or__")
  nr_0_or : PySem.W.findIn K (.ref (ca K 0)) (PySem.dunderR "or") = some none
  xm_18 : tExm [10, 11, 12, 13, 14, 15, 18] [18] K = true
  c_SMALL : ∃ t, mg "SMALL" = some (.int 9 t)
  g_paired : mg "paired" = some (.ref (He.ga K "paired"))
  kp_paired : PySem.W.keepIn K (.ref (He.ga K "paired")) = true
  me_Table___mul : Meth K (ca K 0) "__mul__" (He.ma K (ca K 0) "__mul__")
  nr_0_mul : PySem.W.findIn K (.ref (ca K 0)) (PySem.dunderR "mul") = some none
  g_x_law_told : mg "_law_told" = some (.ref (He.ga K "_law_told"))
  kp_x_law_told : PySem.W.keepIn K (.ref (He.ga K "_law_told")) = true
  g_x_law_agree : mg "_law_agree" = some (.ref (He.ga K "_law_agree"))
  kp_x_law_agree : PySem.W.keepIn K (.ref (He.ga K "_law_agree")) = true
  c_MOST_SCALE : ∃ t, mg "MOST_SCALE" = some (.int 100 t)
  ex_NoNumber : (He.Fa.exc "NoNumber").ok K = true
  g_NoNumber : mg "NoNumber" = some (.ref (He.ga K "NoNumber"))
  me_Table_scaled : Meth K (ca K 0) "scaled" (He.ma K (ca K 0) "scaled")
  g_x_law_are_right : mg "_law_are_right" = some (.ref (He.ga K "_law_are_right"))
  kp_x_law_are_right : PySem.W.keepIn K (.ref (He.ga K "_law_are_right")) = true
  g_CountError : mg "CountError" = some (.ref (He.ga K "CountError"))
  g_law : mg "law" = some (.ref (He.ga K "law"))
  tabs : tT K = lamXs.map (tabP K)
  tb_x_law_are_right : TabB base mg (codC K "_law_are_right") (tabP K "_law_are_right")
  d_x_law_source : ∃ fd, FunD K "_law_source" "_law_source" (defArgs (top 33)) (defBody (top 33)) (defScope (top 33)) [] [] (He.ga K "_law_source") fd
  d_x_law_cell : ∃ fd, FunD K "_law_cell" "_law_cell" (defArgs (top 32)) (defBody (top 32)) (defScope (top 32)) [] [] (He.ga K "_law_cell") fd
  d_word_number : ∃ fd, FunD K "word_number" "word_number" (defArgs (top 22)) (defBody (top 22)) (defScope (top 22)) [] [] (He.ga K "word_number") fd
  d_row_of_line : ∃ fd, FunD K "row_of_line" "row_of_line" (defArgs (top 23)) (defBody (top 23)) (defScope (top 23)) [] [] (He.ga K "row_of_line") fd
  d_is_kind : ∃ fd, FunD K "is_kind" "is_kind" (defArgs (top 18)) (defBody (top 18)) (defScope (top 18)) [] [] (He.ga K "is_kind") fd
  d_is_integer : ∃ fd, FunD K "is_integer" "is_integer" (defArgs (top 16)) (defBody (top 16)) (defScope (top 16)) [] [] (He.ga K "is_integer") fd
  d_is_between : ∃ fd, FunD K "is_between" "is_between" (defArgs (top 17)) (defBody (top 17)) (defScope (top 17)) [] [] (He.ga K "is_between") fd
  d_is_key : ∃ fd, FunD K "is_key" "is_key" (defArgs (top 19)) (defBody (top 19)) (defScope (top 19)) [] [] (He.ga K "is_key") fd
  d_is_row : ∃ fd, FunD K "is_row" "is_row" (defArgs (top 20)) (defBody (top 20)) (defScope (top 20)) [] [] (He.ga K "is_row") fd
  d_are_rows : ∃ fd, FunD K "are_rows" "are_rows" (defArgs (top 21)) (defBody (top 21)) (defScope (top 21)) [] [] (He.ga K "are_rows") fd
  d_Table___init : ∃ fd, FunD K "__init__" "Table.__init__" (defArgs (mth 29 0)) (defBody (mth 29 0)) (defScope (mth 29 0)) [] [] (He.ma K (ca K 0) "__init__") fd
  d_Table_text : ∃ fd, FunD K "text" "Table.text" (defArgs (mth 29 2)) (defBody (mth 29 2)) (defScope (mth 29 2)) [] [] (He.ma K (ca K 0) "text") fd
  d_Table_read : ∃ fd, FunD K "read" "Table.read" (defArgs (mth 29 1)) (defBody (mth 29 1)) (defScope (mth 29 1)) [] [] (cma K (ca K 0) "read") fd
  d_x_law_text : ∃ fd, FunD K "_law_text" "_law_text" (defArgs (top 38)) (defBody (top 38)) (defScope (top 38)) [] [] (He.ga K "_law_text") fd
  d_x_law_draw : ∃ fd, FunD K "_law_draw" "_law_draw" (defArgs (top 34)) (defBody (top 34)) (defScope (top 34)) [] [] (He.ga K "_law_draw") fd
  d_x_law_choose : ∃ fd, FunD K "_law_choose" "_law_choose" (defArgs (top 35)) (defBody (top 35)) (defScope (top 35)) [] [] (He.ga K "_law_choose") fd
  d_x_law_lines : ∃ fd, FunD K "_law_lines" "_law_lines" (defArgs (top 37)) (defBody (top 37)) (defScope (top 37)) [] [] (He.ga K "_law_lines") fd
  d_x_law_drawn : ∃ fd, FunD K "_law_drawn" "_law_drawn" (defArgs (top 39)) (defBody (top 39)) (defScope (top 39)) [] [] (He.ga K "_law_drawn") fd
  d_Table___eq : ∃ fd, FunD K "__eq__" "Table.__eq__" (defArgs (mth 29 11)) (defBody (mth 29 11)) (defScope (mth 29 11)) [] [] (He.ma K (ca K 0) "__eq__") fd
  d_Table_rows : ∃ fd, FunD K "rows" "Table.rows" (defArgs (mth 29 3)) (defBody (mth 29 3)) (defScope (mth 29 3)) [] [] (pga K (ca K 0) "rows") fd
  d_need_table : ∃ fd, FunD K "need_table" "need_table" (defArgs (top 30)) (defBody (top 30)) (defScope (top 30)) [] [] (He.ga K "need_table") fd
  d_table_of : ∃ fd, FunD K "table_of" "table_of" (defArgs (top 28)) (defBody (top 28)) (defScope (top 28)) [] [] (He.ga K "table_of") fd
  d_added : ∃ fd, FunD K "added" "added" (defArgs (top 26)) (defBody (top 26)) (defScope (top 26)) [] [] (He.ga K "added") fd
  d_Table___add : ∃ fd, FunD K "__add__" "Table.__add__" (defArgs (mth 29 8)) (defBody (mth 29 8)) (defScope (mth 29 8)) [] [] (He.ma K (ca K 0) "__add__") fd
  d_x_law_of_rows : ∃ fd, FunD K "_law_of_rows" "_law_of_rows" (defArgs (top 41)) (defBody (top 41)) (defScope (top 41)) [] [] (He.ga K "_law_of_rows") fd
  d_shifted : ∃ fd, FunD K "shifted" "shifted" (defArgs (top 24)) (defBody (top 24)) (defScope (top 24)) [] [] (He.ga K "shifted") fd
  d_greatest : ∃ fd, FunD K "greatest" "greatest" (defArgs (top 25)) (defBody (top 25)) (defScope (top 25)) [] [] (He.ga K "greatest") fd
  d_Table___or : ∃ fd, FunD K "__or__" "Table.__or__" (defArgs (mth 29 9)) (defBody (mth 29 9)) (defScope (mth 29 9)) [] [] (He.ma K (ca K 0) "__or__") fd
  d_x_law_told : ∃ fd, FunD K "_law_told" "_law_told" (defArgs (top 40)) (defBody (top 40)) (defScope (top 40)) [] [] (He.ga K "_law_told") fd
  d_paired : ∃ fd, FunD K "paired" "paired" (defArgs (top 27)) (defBody (top 27)) (defScope (top 27)) [] [] (He.ga K "paired") fd
  d_Table___mul : ∃ fd, FunD K "__mul__" "Table.__mul__" (defArgs (mth 29 10)) (defBody (mth 29 10)) (defScope (mth 29 10)) [] [] (He.ma K (ca K 0) "__mul__") fd
  d_x_law_agree : ∃ fd, FunD K "_law_agree" "_law_agree" (defArgs (top 42)) (defBody (top 42)) (defScope (top 42)) [] [] (He.ga K "_law_agree") fd
  d_Table_scaled : ∃ fd, FunD K "scaled" "Table.scaled" (defArgs (mth 29 4)) (defBody (mth 29 4)) (defScope (mth 29 4)) [] [] (He.ma K (ca K 0) "scaled") fd
  d_x_law_are_right : ∃ fd, FunD K "_law_are_right" "_law_are_right" (defArgs (top 43)) (defBody (top 43)) (defScope (top 43)) [] [] (He.ga K "_law_are_right") fd
  d_law : ∃ fd, FunD K "law" "law" (defArgs (top 44)) (defBody (top 44)) (defScope (top 44)) [] [] (He.ga K "law") fd
section
variable {P : Program} {w : World} {K : Frag} {mg : Str → Option Value} {base : Heap}
/-! ### _law_source -/
theorem sc_x_law_source : FnScope ["_law_cell_here"] ["_law_cell_here"] (defScope (top 33)) := ⟨rfl, rfl, rfl, by decide +kernel, rfl, by decide +kernel, by decide +kernel⟩
theorem ok_x_law_source (G : Gt K mg base) : FnR P w K mg base (L2.CX P w) 1 (He.ga K "_law_source") (spF K [.im] f_x_law_source) := by
  obtain ⟨fd, F⟩ := G.d_x_law_source
  exact fnr (N := ["_law_cell_here"]) (ps := ["_law_cell_here"]) (ms := [.im]) (m := m_x_law_source) F sc_x_law_source rfl (fun _ _ _ _ _ _ us hl => match us, hl with | [_], _ => rfl) fun cdv A outer s H E hr tk po =>
    (ss_one (ss_retN (sn_lst (sa_cons (so_of_se (se_callB (cw_max2 rfl) rfl G.b_max (by decide +kernel) (sa_cons (so_of_se se_int) (sa_cons (so_of_se (se_op2 ow_sub (so_name 0 rfl (by first | exact .inl rfl | exact .inr (.inl rfl) | exact .inr (.inr rfl) | exact .inr rfl)) (so_of_se (se_op2 ow_pow (so_of_se se_int) (so_of_se se_int))))) sa_nil)))) (sa_cons (so_of_se (se_op2 ow_add (so_of_se (se_op2 ow_mod (so_name 0 rfl (by first | exact .inl rfl | exact .inr (.inl rfl) | exact .inr (.inr rfl) | exact .inr rfl)) (so_of_se se_int))) (so_of_se se_int))) (sa_cons (so_of_se se_int) sa_nil))))))
/-! ### _law_cell -/
theorem sc_x_law_cell : FnScope ["_law_script", "_law_index"] ["_law_script", "_law_index"] (defScope (top 32)) := ⟨rfl, rfl, rfl, by decide +kernel, rfl, by decide +kernel, by decide +kernel⟩
theorem ok_x_law_cell (G : Gt K mg base) : FnR P w K mg base (L2.CX P w) 1 (He.ga K "_law_cell") (spF K [.im, .im] f_x_law_cell) := by
  obtain ⟨fd, F⟩ := G.d_x_law_cell
  exact fnr (N := ["_law_script", "_law_index"]) (ps := ["_law_script", "_law_index"]) (ms := [.im, .im]) (m := m_x_law_cell) F sc_x_law_cell rfl (fun _ _ _ _ _ _ us hl => match us, hl with | [_, _], _ => rfl) fun cdv A outer s H E hr tk po =>
    (ss_cons (ss_if (sb_cmp (owI op_lt) (so_name 1 rfl (by first | exact .inl rfl | exact .inr (.inl rfl) | exact .inr (.inr rfl) | exact .inr rfl)) (so_of_se (se_callB cw_len rfl G.b_len (by decide +kernel) (sa_cons (so_name 0 rfl (by first | exact .inl rfl | exact .inr (.inl rfl) | exact .inr (.inr rfl) | exact .inr rfl)) sa_nil))) (nomark _)) (ss_one (ss_ret (se_ix ow_ix (so_name 0 rfl (by first | exact .inl rfl | exact .inr (.inl rfl) | exact .inr (.inr rfl) | exact .inr rfl)) (so_name 1 rfl (by first | exact .inl rfl | exact .inr (.inl rfl) | exact .inr (.inr rfl) | exact .inr rfl)) (fun _ _ => rfl)))) ss_nil) (ss_one (ss_ret se_int)))
/-! ### word_number -/
theorem sc_word_number : FnScope ["word", "sign"] ["word"] (defScope (top 22)) := ⟨rfl, rfl, rfl, by decide +kernel, rfl, by decide +kernel, by decide +kernel⟩
theorem ok_word_number (G : Gt K mg base) : FnR P w K mg base (L2.CX P w) 1 (He.ga K "word_number") (spF K [.im] f_word_number) := by
  obtain ⟨fd, F⟩ := G.d_word_number
  exact fnr (N := ["word", "sign"]) (ps := ["word"]) (ms := [.im]) (m := m_word_number) F sc_word_number rfl (fun _ _ _ _ _ _ us hl => match us, hl with | [_], _ => rfl) fun cdv A outer s H E hr tk po =>
    (ss_cons (ss_if (sb_w (sw_or (sb_not (sb_chain (owI op_le) (owI op_le) (so_of_se se_int) (so_of_se (se_callB cw_len rfl G.b_len (by decide +kernel) (sa_cons (so_name 0 rfl (by first | exact .inl rfl | exact .inr (.inl rfl) | exact .inr (.inr rfl) | exact .inr rfl)) sa_nil))) (so_of_se se_int))) (sw_or1 (sb_not (sb_val (se_callB (cw_all rfl) rfl G.b_all (by decide +kernel) (sa_cons (so_of_se (se_of_sn (sn_lc (own := [("sign", 1)]) rfl sc_word_number.nd (si_nm 0 rfl (by first | exact .inl rfl | exact .inr (.inl rfl) | exact .inr (.inr rfl) | exact .inr rfl)) (blkOk_by rfl) (fun _ _ _ _ _ => (sg_nm 1 sc_word_number.nd rfl (by first | exact .inl rfl | exact .inr (.inl rfl) | exact .inr (.inr rfl) | exact .inr rfl))) (fun _ _ _ _ _ => st_nil) (fun _ _ _ _ _ => (se_cmp (ow_in hr.u65) (so_name 1 rfl (by first | exact .inl rfl | exact .inr (.inl rfl) | exact .inr (.inr rfl) | exact .inr rfl)) (so_of_se (se_gstr rfl G.c_DIGITS)) rfl))))) sa_nil))))))) (ss_one (ss_ret (se_op1 ow_neg (so_of_se se_int)))) ss_nil) (ss_one (ss_ret (se_callTy cw_int rfl G.b_int (by decide +kernel) (sa_cons (so_name 0 rfl (by first | exact .inl rfl | exact .inr (.inl rfl) | exact .inr (.inr rfl) | exact .inr rfl)) sa_nil)))))
/-! ### row_of_line -/
theorem sc_row_of_line : FnScope ["line", "words", "word"] ["line"] (defScope (top 23)) := ⟨rfl, rfl, rfl, by decide +kernel, rfl, by decide +kernel, by decide +kernel⟩
theorem ok_row_of_line (G : Gt K mg base) : FnR P w K mg base (L2.CX P w) 2 (He.ga K "row_of_line") (spF K [.im] f_row_of_line) := by
  obtain ⟨fd, F⟩ := G.d_row_of_line
  exact fnr (N := ["line", "words", "word"]) (ps := ["line"]) (ms := [.im]) (m := m_row_of_line) F sc_row_of_line rfl (fun _ _ _ _ _ _ us hl => match us, hl with | [_], _ => rfl) fun cdv A outer s H E hr tk po =>
    (ss_cons (ss_set 1 sc_row_of_line.nd rfl (by first | exact .inl rfl | exact .inr (.inl rfl) | exact .inr (.inr rfl) | exact .inr rfl) (se_bm PySem.F.plainAttrs_str PySem.F.slot_str_split PySem.F.type_str_split mw_split (so_name 0 rfl (by first | exact .inl rfl | exact .inr (.inl rfl) | exact .inr (.inr rfl) | exact .inr rfl)) (sa_cons (so_of_se se_str) sa_nil))) (ss_one (ss_ret (se_op2 ow_add (so_of_se (se_tup (sa_cons (so_of_se (se_ix ow_ix (so_name 1 rfl (by first | exact .inl rfl | exact .inr (.inl rfl) | exact .inr (.inr rfl) | exact .inr rfl)) (so_of_se se_int) (fun _ _ => rfl))) sa_nil))) (so_of_se (se_callTy cw_tuple rfl G.b_tuple (by decide +kernel) (sa_cons (so_of_se (se_of_sn (sn_lc (own := [("word", 2)]) rfl sc_row_of_line.nd (si_val (se_slice (so_name 1 rfl (by first | exact .inl rfl | exact .inr (.inl rfl) | exact .inr (.inr rfl) | exact .inr rfl)) (spo_some se_int) spo_none)) (blkOk_by rfl) (fun _ _ _ _ _ => (sg_nm 2 sc_row_of_line.nd rfl (by first | exact .inl rfl | exact .inr (.inl rfl) | exact .inr (.inr rfl) | exact .inr rfl))) (fun _ _ _ _ _ => st_nil) (fun _ _ _ _ _ => (se_call (calR_fn (ok_word_number G) (hr.mono (by decide)) takes0) rfl G.g_word_number G.kp_word_number (sa_cons (so_name 2 rfl (by first | exact .inl rfl | exact .inr (.inl rfl) | exact .inr (.inr rfl) | exact .inr rfl)) sa_nil)))))) sa_nil)))))))
/-! ### is_kind -/
theorem sc_is_kind : FnScope ["thing"] ["thing"] (defScope (top 18)) := ⟨rfl, rfl, rfl, by decide +kernel, rfl, by decide +kernel, by decide +kernel⟩
theorem ok_is_kind (G : Gt K mg base) : FnR P w K mg base (L2.CX P w) 1 (He.ga K "is_kind") (spF K [.im] f_is_kind) := by
  obtain ⟨fd, F⟩ := G.d_is_kind
  exact fnr (N := ["thing"]) (ps := ["thing"]) (ms := [.im]) (m := m_is_kind) F sc_is_kind rfl (fun _ _ _ _ _ _ us hl => match us, hl with | [_], _ => rfl) fun cdv A outer s H E hr tk po =>
    (ss_one (ss_ret (se_and (se_isi rfl G.b_isinstance G.k_str (so_name 0 rfl (by first | exact .inl rfl | exact .inr (.inl rfl) | exact .inr (.inr rfl) | exact .inr rfl)) (te_ty rfl G.b_str (by decide +kernel))) (se_one (se_cmp (ow_in hr.u65) (so_name 0 rfl (by first | exact .inl rfl | exact .inr (.inl rfl) | exact .inr (.inr rfl) | exact .inr rfl)) (so_of_se (se_gtup (xs := ["A", "B", "C"]) rfl G.t_KINDS G.g_KINDS)) rfl)))))
/-! ### is_integer -/
theorem sc_is_integer : FnScope ["thing"] ["thing"] (defScope (top 16)) := ⟨rfl, rfl, rfl, by decide +kernel, rfl, by decide +kernel, by decide +kernel⟩
theorem ok_is_integer (G : Gt K mg base) : FnR P w K mg base (L2.CX P w) 1 (He.ga K "is_integer") (spF K [.im] f_is_integer) := by
  obtain ⟨fd, F⟩ := G.d_is_integer
  exact fnr (N := ["thing"]) (ps := ["thing"]) (ms := [.im]) (m := m_is_integer) F sc_is_integer rfl (fun _ _ _ _ _ _ us hl => match us, hl with | [_], _ => rfl) fun cdv A outer s H E hr tk po =>
    (ss_one (ss_ret (se_and (se_isi rfl G.b_isinstance G.k_int (so_name 0 rfl (by first | exact .inl rfl | exact .inr (.inl rfl) | exact .inr (.inr rfl) | exact .inr rfl)) (te_ty rfl G.b_int (by decide +kernel))) (se_one (se_not (se_isi rfl G.b_isinstance G.k_bool (so_name 0 rfl (by first | exact .inl rfl | exact .inr (.inl rfl) | exact .inr (.inr rfl) | exact .inr rfl)) (te_ty rfl G.b_bool (by decide +kernel))))))))
/-! ### is_between -/
theorem sc_is_between : FnScope ["thing", "low", "high"] ["thing", "low", "high"] (defScope (top 17)) := ⟨rfl, rfl, rfl, by decide +kernel, rfl, by decide +kernel, by decide +kernel⟩
theorem ok_is_between (G : Gt K mg base) : FnR P w K mg base (L2.CX P w) 2 (He.ga K "is_between") (spF K [.im, .im, .im] f_is_between) := by
  obtain ⟨fd, F⟩ := G.d_is_between
  exact fnr (N := ["thing", "low", "high"]) (ps := ["thing", "low", "high"]) (ms := [.im, .im, .im]) (m := m_is_between) F sc_is_between rfl (fun _ _ _ _ _ _ us hl => match us, hl with | [_, _, _], _ => rfl) fun cdv A outer s H E hr tk po =>
    (ss_one (ss_ret (se_and (se_call (calR_fn (ok_is_integer G) (hr.mono (by decide)) tk) rfl G.g_is_integer G.kp_is_integer (sa_cons (so_name 0 rfl (by first | exact .inl rfl | exact .inr (.inl rfl) | exact .inr (.inr rfl) | exact .inr rfl)) sa_nil)) (se_one (se_chain (owI op_le) (owI op_le) (so_name 1 rfl (by first | exact .inl rfl | exact .inr (.inl rfl) | exact .inr (.inr rfl) | exact .inr rfl)) (so_name 0 rfl (by first | exact .inl rfl | exact .inr (.inl rfl) | exact .inr (.inr rfl) | exact .inr rfl)) (so_name 2 rfl (by first | exact .inl rfl | exact .inr (.inl rfl) | exact .inr (.inr rfl) | exact .inr rfl)))))))
/-! ### is_key -/
theorem sc_is_key : FnScope ["thing"] ["thing"] (defScope (top 19)) := ⟨rfl, rfl, rfl, by decide +kernel, rfl, by decide +kernel, by decide +kernel⟩
theorem ok_is_key (G : Gt K mg base) : FnR P w K mg base (L2.CX P w) 3 (He.ga K "is_key") (spF K [.im] f_is_key) := by
  obtain ⟨fd, F⟩ := G.d_is_key
  exact fnr (N := ["thing"]) (ps := ["thing"]) (ms := [.im]) (m := m_is_key) F sc_is_key rfl (fun _ _ _ _ _ _ us hl => match us, hl with | [_], _ => rfl) fun cdv A outer s H E hr tk po =>
    (ss_cons (ss_if (sb_w (sw_or (sb_not (sb_val (se_isi rfl G.b_isinstance G.k_tuple (so_name 0 rfl (by first | exact .inl rfl | exact .inr (.inl rfl) | exact .inr (.inr rfl) | exact .inr rfl)) (te_ty rfl G.b_tuple (by decide +kernel))))) (sw_or (sb_cmp (ow_ne hr.units) (so_of_se (se_callB cw_len rfl G.b_len (by decide +kernel) (sa_cons (so_name 0 rfl (by first | exact .inl rfl | exact .inr (.inl rfl) | exact .inr (.inr rfl) | exact .inr rfl)) sa_nil))) (so_of_se se_int) (nomark _)) (sw_or1 (sb_not (sb_val (se_call (calR_fn (ok_is_kind G) (hr.mono (by decide)) tk) rfl G.g_is_kind G.kp_is_kind (sa_cons (so_of_se (se_ix ow_ix (so_name 0 rfl (by first | exact .inl rfl | exact .inr (.inl rfl) | exact .inr (.inr rfl) | exact .inr rfl)) (so_of_se se_int) (fun _ _ => rfl))) sa_nil)))))))) (ss_one (ss_ret se_bl)) ss_nil) (ss_one (ss_ret (se_and (se_call (calR_fn (ok_is_between G) (hr.mono (by decide)) tk) rfl G.g_is_between G.kp_is_between (sa_cons (so_of_se (se_ix ow_ix (so_name 0 rfl (by first | exact .inl rfl | exact .inr (.inl rfl) | exact .inr (.inr rfl) | exact .inr rfl)) (so_of_se se_int) (fun _ _ => rfl))) (sa_cons (so_of_se se_int) (sa_cons (so_of_se (se_gint rfl G.c_MOST_VALUE)) sa_nil)))) (se_one (se_call (calR_fn (ok_is_between G) (hr.mono (by decide)) tk) rfl G.g_is_between G.kp_is_between (sa_cons (so_of_se (se_ix ow_ix (so_name 0 rfl (by first | exact .inl rfl | exact .inr (.inl rfl) | exact .inr (.inr rfl) | exact .inr rfl)) (so_of_se se_int) (fun _ _ => rfl))) (sa_cons (so_of_se se_int) (sa_cons (so_of_se (se_gint rfl G.c_MOST_VALUE)) sa_nil)))))))))
/-! ### is_row -/
theorem sc_is_row : FnScope ["thing"] ["thing"] (defScope (top 20)) := ⟨rfl, rfl, rfl, by decide +kernel, rfl, by decide +kernel, by decide +kernel⟩
theorem ok_is_row (G : Gt K mg base) : FnR P w K mg base (L2.CX P w) 4 (He.ga K "is_row") (spF K [.im] f_is_row) := by
  obtain ⟨fd, F⟩ := G.d_is_row
  exact fnr (N := ["thing"]) (ps := ["thing"]) (ms := [.im]) (m := m_is_row) F sc_is_row rfl (fun _ _ _ _ _ _ us hl => match us, hl with | [_], _ => rfl) fun cdv A outer s H E hr tk po =>
    (ss_cons (ss_if (sb_w (sw_or (sb_not (sb_val (se_isi rfl G.b_isinstance G.k_tuple (so_name 0 rfl (by first | exact .inl rfl | exact .inr (.inl rfl) | exact .inr (.inr rfl) | exact .inr rfl)) (te_ty rfl G.b_tuple (by decide +kernel))))) (sw_or1 (sb_cmp (ow_ne hr.units) (so_of_se (se_callB cw_len rfl G.b_len (by decide +kernel) (sa_cons (so_name 0 rfl (by first | exact .inl rfl | exact .inr (.inl rfl) | exact .inr (.inr rfl) | exact .inr rfl)) sa_nil))) (so_of_se se_int) (nomark _))))) (ss_one (ss_ret se_bl)) ss_nil) (ss_one (ss_ret (se_and (se_call (calR_fn (ok_is_key G) (hr.mono (by decide)) tk) rfl G.g_is_key G.kp_is_key (sa_cons (so_of_se (se_slice (so_name 0 rfl (by first | exact .inl rfl | exact .inr (.inl rfl) | exact .inr (.inr rfl) | exact .inr rfl)) spo_none (spo_some se_int))) sa_nil)) (se_one (se_call (calR_fn (ok_is_between G) (hr.mono (by decide)) tk) rfl G.g_is_between G.kp_is_between (sa_cons (so_of_se (se_ix ow_ix (so_name 0 rfl (by first | exact .inl rfl | exact .inr (.inl rfl) | exact .inr (.inr rfl) | exact .inr rfl)) (so_of_se se_int) (fun _ _ => rfl))) (sa_cons (so_of_se se_int) (sa_cons (so_of_se (se_gint rfl G.c_MOST_OFTEN)) sa_nil)))))))))
/-! ### are_rows -/
theorem sc_are_rows : FnScope ["things", "thing", "keys", "key"] ["things"] (defScope (top 21)) := ⟨rfl, rfl, rfl, by decide +kernel, rfl, by decide +kernel, by decide +kernel⟩
theorem ok_are_rows (G : Gt K mg base) : FnR P w K mg base (L2.CX P w) 5 (He.ga K "are_rows") (spF K [.im] f_are_rows) := by
  obtain ⟨fd, F⟩ := G.d_are_rows
  exact fnr (N := ["things", "thing", "keys", "key"]) (ps := ["things"]) (ms := [.im]) (m := m_are_rows) F sc_are_rows rfl (fun _ _ _ _ _ _ us hl => match us, hl with | [_], _ => rfl) fun cdv A outer s H E hr tk po =>
    (ss_cons (ss_if (sb_w (sw_or (sb_cmp (owI op_gt) (so_of_se (se_callB cw_len rfl G.b_len (by decide +kernel) (sa_cons (so_name 0 rfl (by first | exact .inl rfl | exact .inr (.inl rfl) | exact .inr (.inr rfl) | exact .inr rfl)) sa_nil))) (so_of_se (se_gint rfl G.c_MOST_ROWS)) (nomark _)) (sw_or1 (sb_not (sb_val (se_callB (cw_all rfl) rfl G.b_all (by decide +kernel) (sa_cons (so_of_se (se_of_sn (sn_lc (own := [("thing", 1)]) rfl sc_are_rows.nd (si_nm 0 rfl (by first | exact .inl rfl | exact .inr (.inl rfl) | exact .inr (.inr rfl) | exact .inr rfl)) (blkOk_by rfl) (fun _ _ _ _ _ => (sg_nm 1 sc_are_rows.nd rfl (by first | exact .inl rfl | exact .inr (.inl rfl) | exact .inr (.inr rfl) | exact .inr rfl))) (fun _ _ _ _ _ => st_nil) (fun _ _ _ _ _ => (se_call (calR_fn (ok_is_row G) (hr.mono (by decide)) takes0) rfl G.g_is_row G.kp_is_row (sa_cons (so_name 1 rfl (by first | exact .inl rfl | exact .inr (.inl rfl) | exact .inr (.inr rfl) | exact .inr rfl)) sa_nil)))))) sa_nil))))))) (ss_one (ss_ret se_bl)) ss_nil) (ss_cons (ss_set 2 sc_are_rows.nd rfl (by first | exact .inl rfl | exact .inr (.inl rfl) | exact .inr (.inr rfl) | exact .inr rfl) (se_of_sn (sn_lc (own := [("thing", 1)]) rfl sc_are_rows.nd (si_nm 0 rfl (by first | exact .inl rfl | exact .inr (.inl rfl) | exact .inr (.inr rfl) | exact .inr rfl)) (blkOk_by rfl) (fun _ _ _ _ _ => (sg_nm 1 sc_are_rows.nd rfl (by first | exact .inl rfl | exact .inr (.inl rfl) | exact .inr (.inr rfl) | exact .inr rfl))) (fun _ _ _ _ _ => st_nil) (fun _ _ _ _ _ => (se_slice (so_name 1 rfl (by first | exact .inl rfl | exact .inr (.inl rfl) | exact .inr (.inr rfl) | exact .inr rfl)) spo_none (spo_some se_int)))))) (ss_one (ss_ret (se_callB (cw_all rfl) rfl G.b_all (by decide +kernel) (sa_cons (so_of_se (se_of_sn (sn_lc (own := [("key", 3)]) rfl sc_are_rows.nd (si_nm 2 rfl (by first | exact .inl rfl | exact .inr (.inl rfl) | exact .inr (.inr rfl) | exact .inr rfl)) (blkOk_by rfl) (fun _ _ _ _ _ => (sg_nm 3 sc_are_rows.nd rfl (by first | exact .inl rfl | exact .inr (.inl rfl) | exact .inr (.inr rfl) | exact .inr rfl))) (fun _ _ _ _ _ => st_nil) (fun _ _ _ _ _ => (se_cmp (ow_eq hr.units) (so_of_se (se_bm PySem.F.plainAttrs_list PySem.F.slot_list_count PySem.F.type_list_count (mw_count hr.u65) (so_name 2 rfl (by first | exact .inl rfl | exact .inr (.inl rfl) | exact .inr (.inr rfl) | exact .inr rfl)) (sa_cons (so_name 3 rfl (by first | exact .inl rfl | exact .inr (.inl rfl) | exact .inr (.inr rfl) | exact .inr rfl)) sa_nil))) (so_of_se se_int) (nomark _)))))) sa_nil))))))
/-! ### Table.__init__ -/
theorem sc_Table___init : FnScope ["self", "rows"] ["self", "rows"] (defScope (mth 29 0)) := ⟨rfl, rfl, rfl, by decide +kernel, rfl, by decide +kernel, by decide +kernel⟩
theorem ok_Table___init (G : Gt K mg base) : FnR P w K mg base (L2.CX P w) 6 (He.ma K (ca K 0) "__init__") (spStar 1 (spF K [.mu, .im] f_Table___init)) := by
  obtain ⟨fd, F⟩ := G.d_Table___init
  exact fnr_star (N := ["self", "rows"]) (ps := ["self"]) (pv := "rows") (ms := [.mu, .im]) (m := m_Table___init) F sc_Table___init rfl (fun kV doc pm an cdv ct => StX.bind_star1 (B := fun us => bindArgs (PySem.W.fnOf "__init__" "Table.__init__" (defArgs (mth 29 0)) (defBody (mth 29 0)) (defScope (mth 29 0)) .none kV doc pm an cdv ct) ⟨us, []⟩) (fun _ => rfl) (fun _ _ _ => rfl)) fun cdv A outer s H E hr tk po =>
    (ss_cons (ss_if (sb_not (sb_val (se_call (calR_fn (ok_are_rows G) (hr.mono (by decide)) tk) rfl G.g_are_rows G.kp_are_rows (sa_cons (so_name 1 rfl (by first | exact .inl rfl | exact .inr (.inl rfl) | exact .inr (.inr rfl) | exact .inr rfl)) sa_nil)))) (ss_one (ss_raiseC 11 rfl tk rfl G.ex_NoRows G.g_NoRows rfl)) ss_nil) (ss_one (ss_stF 0 0 G.fl_0_kept rfl (by first | exact .inl rfl | exact .inr (.inl rfl) | exact .inr (.inr rfl) | exact .inr rfl) (se_callTy cw_tuple rfl G.b_tuple (by decide +kernel) (sa_cons (so_of_se (se_of_sn (sn_callB (cw_sorted hr.units) rfl G.b_sorted (by decide +kernel) (sa_cons (so_name 1 rfl (by first | exact .inl rfl | exact .inr (.inl rfl) | exact .inr (.inr rfl) | exact .inr rfl)) sa_nil)))) sa_nil)))))
/-! ### Table.text -/
theorem sc_Table_text : FnScope ["self", "kind", "left", "right", "often"] ["self"] (defScope (mth 29 2)) := ⟨rfl, rfl, rfl, by decide +kernel, rfl, by decide +kernel, by decide +kernel⟩
theorem ok_Table_text (G : Gt K mg base) : FnR P w K mg base (L2.CX P w) 1 (He.ma K (ca K 0) "text") (spF K [.im] f_Table_text) := by
  obtain ⟨fd, F⟩ := G.d_Table_text
  exact fnr (N := ["self", "kind", "left", "right", "often"]) (ps := ["self"]) (ms := [.im]) (m := m_Table_text) F sc_Table_text rfl (fun _ _ _ _ _ _ us hl => match us, hl with | [_], _ => rfl) fun cdv A outer s H E hr tk po =>
    (ss_one (ss_ret (se_bm PySem.F.plainAttrs_str PySem.F.slot_str_join PySem.F.type_str_join mw_join (so_of_se se_str) (sa_cons (so_of_se (se_of_sn (sn_lc (own := [("kind", 1), ("left", 2), ("right", 3), ("often", 4)]) rfl sc_Table_text.nd (si_val (se_fld 0 G.fl_0_kept (so_name 0 rfl (by first | exact .inl rfl | exact .inr (.inl rfl) | exact .inr (.inr rfl) | exact .inr rfl)))) (blkOk_by rfl) (fun _ _ _ _ _ => (sg_tup (n := 4) rfl (sg_cons (sg_nm 1 sc_Table_text.nd rfl (by first | exact .inl rfl | exact .inr (.inl rfl) | exact .inr (.inr rfl) | exact .inr rfl)) (sg_cons (sg_nm 2 sc_Table_text.nd rfl (by first | exact .inl rfl | exact .inr (.inl rfl) | exact .inr (.inr rfl) | exact .inr rfl)) (sg_cons (sg_nm 3 sc_Table_text.nd rfl (by first | exact .inl rfl | exact .inr (.inl rfl) | exact .inr (.inr rfl) | exact .inr rfl)) (sg_cons (sg_nm 4 sc_Table_text.nd rfl (by first | exact .inl rfl | exact .inr (.inl rfl) | exact .inr (.inr rfl) | exact .inr rfl)) sg_nil)))))) (fun _ _ _ _ _ => st_nil) (fun _ _ _ _ _ => (se_joined (sj_cons (se_fmt (so_name 1 rfl (by first | exact .inl rfl | exact .inr (.inl rfl) | exact .inr (.inr rfl) | exact .inr rfl))) (sj_cons se_str (sj_cons (se_fmt (so_name 2 rfl (by first | exact .inl rfl | exact .inr (.inl rfl) | exact .inr (.inr rfl) | exact .inr rfl))) (sj_cons se_str (sj_cons (se_fmt (so_name 3 rfl (by first | exact .inl rfl | exact .inr (.inl rfl) | exact .inr (.inr rfl) | exact .inr rfl))) (sj_cons se_str (sj_cons (se_fmt (so_name 4 rfl (by first | exact .inl rfl | exact .inr (.inl rfl) | exact .inr (.inr rfl) | exact .inr rfl))) (sj_cons se_str sj_nil))))))))))))) sa_nil))))
/-! ### Table.read -/
theorem sc_Table_read : FnScope ["cls", "text", "rows", "line", "made"] ["cls", "text"] (defScope (mth 29 1)) := ⟨rfl, rfl, rfl, by decide +kernel, rfl, by decide +kernel, by decide +kernel⟩
theorem ok_Table_read (G : Gt K mg base) : FnR P w K mg base (L2.CX P w) 8 (cma K (ca K 0) "read") (spF K [.im, .im] f_Table_read) := by
  obtain ⟨fd, F⟩ := G.d_Table_read
  exact fnr (N := ["cls", "text", "rows", "line", "made"]) (ps := ["cls", "text"]) (ms := [.im, .im]) (m := m_Table_read) F sc_Table_read rfl (fun _ _ _ _ _ _ us hl => match us, hl with | [_, _], _ => rfl) fun cdv A outer s H E hr tk po =>
    (ss_cons (ss_if (sb_w (sw_or (sb_not (sb_val (se_isi rfl G.b_isinstance G.k_str (so_name 1 rfl (by first | exact .inl rfl | exact .inr (.inl rfl) | exact .inr (.inr rfl) | exact .inr rfl)) (te_ty rfl G.b_str (by decide +kernel))))) (sw_or1 (sb_w (sw_and (sb_cmp (ow_ne hr.units) (so_name 1 rfl (by first | exact .inl rfl | exact .inr (.inl rfl) | exact .inr (.inr rfl) | exact .inr rfl)) (so_of_se se_str) (nomark _)) (sw_and1 (sb_not (sb_val (se_bm PySem.F.plainAttrs_str PySem.F.slot_str_endswith PySem.F.type_str_endswith mw_endswith (so_name 1 rfl (by first | exact .inl rfl | exact .inr (.inl rfl) | exact .inr (.inr rfl) | exact .inr rfl)) (sa_cons (so_of_se se_str) sa_nil)))))))))) (ss_one (ss_raiseC 14 rfl tk rfl G.ex_NoText G.g_NoText rfl)) ss_nil) (ss_cons (ss_setLc (i := 2) (own := [("line", 3)]) rfl sc_Table_read.nd rfl rfl (sw_true rfl rfl rfl rfl) (si_val (se_slice (so_of_se (se_bm PySem.F.plainAttrs_str PySem.F.slot_str_split PySem.F.type_str_split mw_split (so_name 1 rfl (by first | exact .inl rfl | exact .inr (.inl rfl) | exact .inr (.inr rfl) | exact .inr rfl)) (sa_cons (so_of_se se_str) sa_nil))) spo_none (spo_some (se_op1 ow_neg (so_of_se se_int))))) (blkOk_by rfl) (fun _ _ _ _ _ => (sg_nm 3 sc_Table_read.nd rfl (by first | exact .inl rfl | exact .inr (.inl rfl) | exact .inr (.inr rfl) | exact .inr rfl))) (fun _ _ _ _ _ => st_nil) (fun _ _ _ _ _ => (se_call (calR_fn (ok_row_of_line G) (hr.mono (by decide)) takes0) rfl G.g_row_of_line G.kp_row_of_line (sa_cons (so_name 3 rfl (by first | exact .inl rfl | exact .inr (.inl rfl) | exact .inr (.inr rfl) | exact .inr rfl)) sa_nil)))) (ss_cons (ss_if (sb_not (sb_val (se_call (calR_fn (ok_are_rows G) (hr.mono (by decide)) tk) rfl G.g_are_rows G.kp_are_rows (sa_cons (so_name 2 rfl (by first | exact .inl rfl | exact .inr (.inl rfl) | exact .inr (.inr rfl) | exact .inr rfl)) sa_nil)))) (ss_one (ss_raiseC 14 rfl tk rfl G.ex_NoText G.g_NoText rfl)) ss_nil) (ss_cons (ss_set 4 sc_Table_read.nd rfl (by first | exact .inl rfl | exact .inr (.inl rfl) | exact .inr (.inr rfl) | exact .inr rfl) (se_of_sn (sn_mkLS (c := 0) (calR_mk G.mk_0 (ok_Table___init G) (hr.mono (by decide)) tk) 0 rfl (by first | exact .inl rfl | exact .inr (.inl rfl) | exact .inr (.inr rfl) | exact .inr rfl) G.kp_Table (se_of_so (so_name 2 rfl (by first | exact .inl rfl | exact .inr (.inl rfl) | exact .inr (.inr rfl) | exact .inr rfl)))))) (ss_cons (ss_if (sb_cmp (ow_ne hr.units) (so_of_se (se_meth0 (cs := [0]) (ms := [.im]) (f := fun _ => f_Table_text) (so_name 4 rfl (by first | exact .inl rfl | exact .inr (.inl rfl) | exact .inr (.inr rfl) | exact .inr rfl)) (fun c hc => by cases hc with | head => exact ⟨_, G.cl_0, G.me_Table_text, (codR_fn (ok_Table_text G) (hr.mono (by decide)) tk)⟩ | tail _ h => cases h) (fun i h => by match i, h with | 0, _ => decide | 1, _ => decide | 2, _ => decide | 3, _ => decide | 4, _ => decide | i + 5, h => omega))) (so_name 1 rfl (by first | exact .inl rfl | exact .inr (.inl rfl) | exact .inr (.inr rfl) | exact .inr rfl)) (nomark _)) (ss_one (ss_raiseC 14 rfl tk rfl G.ex_NoText G.g_NoText rfl)) ss_nil) (ss_one (ss_ret (se_of_so (so_name 4 rfl (by first | exact .inl rfl | exact .inr (.inl rfl) | exact .inr (.inr rfl) | exact .inr rfl))))))))))
/-! ### _law_text -/
theorem sc_x_law_text : FnScope ["_law_lines_here", "_law_part", "_law_row"] ["_law_lines_here"] (defScope (top 38)) := ⟨rfl, rfl, rfl, by decide +kernel, rfl, by decide +kernel, by decide +kernel⟩
theorem ok_x_law_text (G : Gt K mg base) : FnR P w K mg base (L2.CX P w) 1 (He.ga K "_law_text") (spF K [.im] f_x_law_text) := by
  obtain ⟨fd, F⟩ := G.d_x_law_text
  exact fnr (N := ["_law_lines_here", "_law_part", "_law_row"]) (ps := ["_law_lines_here"]) (ms := [.im]) (m := m_x_law_text) F sc_x_law_text rfl (fun _ _ _ _ _ _ us hl => match us, hl with | [_], _ => rfl) fun cdv A outer s H E hr tk po =>
    (ss_one (ss_ret (se_bm PySem.F.plainAttrs_str PySem.F.slot_str_join PySem.F.type_str_join mw_join (so_of_se se_str) (sa_cons (so_of_se (se_of_sn (sn_lc (own := [("_law_row", 2)]) rfl sc_x_law_text.nd (si_val (se_of_sn (sn_callB (cw_sorted hr.units) rfl G.b_sorted (by decide +kernel) (sa_cons (so_name 0 rfl (by first | exact .inl rfl | exact .inr (.inl rfl) | exact .inr (.inr rfl) | exact .inr rfl)) sa_nil)))) (blkOk_by rfl) (fun _ _ _ _ _ => (sg_nm 2 sc_x_law_text.nd rfl (by first | exact .inl rfl | exact .inr (.inl rfl) | exact .inr (.inr rfl) | exact .inr rfl))) (fun _ _ _ _ _ => st_nil) (fun _ _ _ _ _ => (se_op2 ow_add (so_of_se (se_bm PySem.F.plainAttrs_str PySem.F.slot_str_join PySem.F.type_str_join mw_join (so_of_se se_str) (sa_cons (so_of_se (se_of_sn (sn_lc (own := [("_law_part", 1)]) rfl sc_x_law_text.nd (si_nm 2 rfl (by first | exact .inl rfl | exact .inr (.inl rfl) | exact .inr (.inr rfl) | exact .inr rfl)) (blkOk_by rfl) (fun _ _ _ _ _ => (sg_nm 1 sc_x_law_text.nd rfl (by first | exact .inl rfl | exact .inr (.inl rfl) | exact .inr (.inr rfl) | exact .inr rfl))) (fun _ _ _ _ _ => st_nil) (fun _ _ _ _ _ => (se_callTy cw_str rfl G.b_str (by decide +kernel) (sa_cons (so_name 1 rfl (by first | exact .inl rfl | exact .inr (.inl rfl) | exact .inr (.inr rfl) | exact .inr rfl)) sa_nil)))))) sa_nil))) (so_of_se se_str)))))) sa_nil))))
/-! ### _law_draw -/
theorem sc_x_law_draw : FnScope ["_law_source_here", "_law_many", "_law_found", "_law_mixed"] ["_law_source_here", "_law_many"] (defScope (top 34)) := ⟨rfl, rfl, rfl, by decide +kernel, rfl, by decide +kernel, by decide +kernel⟩
theorem ok_x_law_draw (G : Gt K mg base) : FnR P w K mg base (L2.CX P w) 1 (He.ga K "_law_draw") (spF K [.mu, .im] f_x_law_draw) := by
  obtain ⟨fd, F⟩ := G.d_x_law_draw
  exact fnr (N := ["_law_source_here", "_law_many", "_law_found", "_law_mixed"]) (ps := ["_law_source_here", "_law_many"]) (ms := [.mu, .im]) (m := m_x_law_draw) F sc_x_law_draw rfl (fun _ _ _ _ _ _ us hl => match us, hl with | [_, _], _ => rfl) fun cdv A outer s H E hr tk po =>
    (ss_cons (ss_if (sb_cmp (owI op_gt) (so_of_se (se_ix ow_ix (so_name 0 rfl (by first | exact .inl rfl | exact .inr (.inl rfl) | exact .inr (.inr rfl) | exact .inr rfl)) (so_of_se se_int) (fun _ _ => rfl))) (so_of_se se_int) (nomark _)) (ss_cons (ss_set 2 sc_x_law_draw.nd rfl (by first | exact .inl rfl | exact .inr (.inl rfl) | exact .inr (.inr rfl) | exact .inr rfl) (se_op2 ow_mod (so_of_se (se_ix ow_ix (so_name 0 rfl (by first | exact .inl rfl | exact .inr (.inl rfl) | exact .inr (.inr rfl) | exact .inr rfl)) (so_of_se se_int) (fun _ _ => rfl))) (so_name 1 rfl (by first | exact .inl rfl | exact .inr (.inl rfl) | exact .inr (.inr rfl) | exact .inr rfl)))) (ss_cons (ss_setIx (T := "list") 0 wset_list rfl (by first | exact .inl rfl | exact .inr (.inl rfl) | exact .inr (.inr rfl) | exact .inr rfl) (se_op2 ow_div (so_of_se (se_ix ow_ix (so_name 0 rfl (by first | exact .inl rfl | exact .inr (.inl rfl) | exact .inr (.inr rfl) | exact .inr rfl)) (so_of_se se_int) (fun _ _ => rfl))) (so_name 1 rfl (by first | exact .inl rfl | exact .inr (.inl rfl) | exact .inr (.inr rfl) | exact .inr rfl))) se_int) (ss_one (ss_ret (se_of_so (so_name 2 rfl (by first | exact .inl rfl | exact .inr (.inl rfl) | exact .inr (.inr rfl) | exact .inr rfl))))))) ss_nil) (ss_cons (ss_setIx (T := "list") 0 wset_list rfl (by first | exact .inl rfl | exact .inr (.inl rfl) | exact .inr (.inr rfl) | exact .inr rfl) (se_op2 ow_add (so_of_se (se_ix ow_ix (so_name 0 rfl (by first | exact .inl rfl | exact .inr (.inl rfl) | exact .inr (.inr rfl) | exact .inr rfl)) (so_of_se se_int) (fun _ _ => rfl))) (so_of_se se_int)) se_int) (ss_cons (ss_setIx (T := "list") 0 wset_list rfl (by first | exact .inl rfl | exact .inr (.inl rfl) | exact .inr (.inr rfl) | exact .inr rfl) (se_op2 ow_mod (so_of_se (se_op2 ow_add (so_of_se (se_op2 ow_add (so_of_se (se_op2 ow_mul (so_of_se (se_ix ow_ix (so_name 0 rfl (by first | exact .inl rfl | exact .inr (.inl rfl) | exact .inr (.inr rfl) | exact .inr rfl)) (so_of_se se_int) (fun _ _ => rfl))) (so_of_se se_int))) (so_of_se (se_op2 ow_mul (so_of_se se_int) (so_of_se (se_ix ow_ix (so_name 0 rfl (by first | exact .inl rfl | exact .inr (.inl rfl) | exact .inr (.inr rfl) | exact .inr rfl)) (so_of_se se_int) (fun _ _ => rfl))))))) (so_of_se se_int))) (so_of_se se_int)) se_int) (ss_cons (ss_set 3 sc_x_law_draw.nd rfl (by first | exact .inl rfl | exact .inr (.inl rfl) | exact .inr (.inr rfl) | exact .inr rfl) (se_op2 ow_mod (so_of_se (se_op2 ow_add (so_of_se (se_op2 ow_add (so_of_se (se_op2 ow_mul (so_of_se (se_ix ow_ix (so_name 0 rfl (by first | exact .inl rfl | exact .inr (.inl rfl) | exact .inr (.inr rfl) | exact .inr rfl)) (so_of_se se_int) (fun _ _ => rfl))) (so_of_se (se_ix ow_ix (so_name 0 rfl (by first | exact .inl rfl | exact .inr (.inl rfl) | exact .inr (.inr rfl) | exact .inr rfl)) (so_of_se se_int) (fun _ _ => rfl))))) (so_of_se (se_op2 ow_mul (so_of_se se_int) (so_of_se (se_ix ow_ix (so_name 0 rfl (by first | exact .inl rfl | exact .inr (.inl rfl) | exact .inr (.inr rfl) | exact .inr rfl)) (so_of_se se_int) (fun _ _ => rfl))))))) (so_of_se se_int))) (so_of_se se_int))) (ss_cons (ss_set 3 sc_x_law_draw.nd rfl (by first | exact .inl rfl | exact .inr (.inl rfl) | exact .inr (.inr rfl) | exact .inr rfl) (se_op2 ow_mod (so_of_se (se_op2 ow_add (so_of_se (se_op2 ow_mul (so_name 3 rfl (by first | exact .inl rfl | exact .inr (.inl rfl) | exact .inr (.inr rfl) | exact .inr rfl)) (so_name 3 rfl (by first | exact .inl rfl | exact .inr (.inl rfl) | exact .inr (.inr rfl) | exact .inr rfl)))) (so_of_se (se_op2 ow_mul (so_of_se se_int) (so_name 3 rfl (by first | exact .inl rfl | exact .inr (.inl rfl) | exact .inr (.inr rfl) | exact .inr rfl)))))) (so_of_se se_int))) (ss_one (ss_ret (se_op2 ow_mod (so_of_se (se_op2 ow_div (so_name 3 rfl (by first | exact .inl rfl | exact .inr (.inl rfl) | exact .inr (.inr rfl) | exact .inr rfl)) (so_of_se se_int))) (so_name 1 rfl (by first | exact .inl rfl | exact .inr (.inl rfl) | exact .inr (.inr rfl) | exact .inr rfl))))))))))
/-! ### _law_choose -/
theorem sc_x_law_choose : FnScope ["_law_source_here", "_law_values"] ["_law_source_here", "_law_values"] (defScope (top 35)) := ⟨rfl, rfl, rfl, by decide +kernel, rfl, by decide +kernel, by decide +kernel⟩
theorem ok_x_law_choose (G : Gt K mg base) : FnR P w K mg base (L2.CX P w) 2 (He.ga K "_law_choose") (spF K [.mu, .ro] f_x_law_choose) := by
  obtain ⟨fd, F⟩ := G.d_x_law_choose
  exact fnr (N := ["_law_source_here", "_law_values"]) (ps := ["_law_source_here", "_law_values"]) (ms := [.mu, .ro]) (m := m_x_law_choose) F sc_x_law_choose rfl (fun _ _ _ _ _ _ us hl => match us, hl with | [_, _], _ => rfl) fun cdv A outer s H E hr tk po =>
    (ss_one (ss_ret (se_ix ow_ix (so_name 1 rfl (by first | exact .inl rfl | exact .inr (.inl rfl) | exact .inr (.inr rfl) | exact .inr rfl)) (so_of_se (se_call (calR_fn (ok_x_law_draw G) (hr.mono (by decide)) tk) rfl G.g_x_law_draw G.kp_x_law_draw (sa_cons (so_name 0 rfl (by first | exact .inl rfl | exact .inr (.inl rfl) | exact .inr (.inr rfl) | exact .inr rfl)) (sa_cons (so_of_se (se_callB cw_len rfl G.b_len (by decide +kernel) (sa_cons (so_name 1 rfl (by first | exact .inl rfl | exact .inr (.inl rfl) | exact .inr (.inr rfl) | exact .inr rfl)) sa_nil))) sa_nil)))) (fun _ _ => rfl))))
/-! ### _law_lines -/
theorem sc_x_law_lines : FnScope ["_law_source_here", "_law_most", "_law_value", "_law_often", "_law_found", "_law_many", "_law_kinds", "_law_turn", "_law_key", "_law_number", "_law_row"] ["_law_source_here", "_law_most", "_law_value", "_law_often"] (defScope (top 37)) := ⟨rfl, rfl, rfl, by decide +kernel, rfl, by decide +kernel, by decide +kernel⟩
theorem ok_x_law_lines (G : Gt K mg base) : FnR P w K mg base (L2.CX P w) 3 (He.ga K "_law_lines") (spF K [.mu, .im, .im, .im] f_x_law_lines) := by
  obtain ⟨fd, F⟩ := G.d_x_law_lines
  exact fnr (N := ["_law_source_here", "_law_most", "_law_value", "_law_often", "_law_found", "_law_many", "_law_kinds", "_law_turn", "_law_key", "_law_number", "_law_row"]) (ps := ["_law_source_here", "_law_most", "_law_value", "_law_often"]) (ms := [.mu, .im, .im, .im]) (m := m_x_law_lines) F sc_x_law_lines rfl (fun _ _ _ _ _ _ us hl => match us, hl with | [_, _, _, _], _ => rfl) fun cdv A outer s H E hr tk po =>
    (ss_cons (ss_parN (i := 4) (j := 5) rfl sc_x_law_lines.nd rfl rfl (by decide) rfl rfl (sn_lst sa_nil) (se_call (calR_fn (ok_x_law_draw G) (hr.mono (by decide)) tk) rfl G.g_x_law_draw G.kp_x_law_draw (sa_cons (so_name 0 rfl (by first | exact .inl rfl | exact .inr (.inl rfl) | exact .inr (.inr rfl) | exact .inr rfl)) (sa_cons (so_of_se (se_op2 ow_add (so_name 1 rfl (by first | exact .inl rfl | exact .inr (.inl rfl) | exact .inr (.inr rfl) | exact .inr rfl)) (so_of_se se_int))) sa_nil))) rfl) (ss_cons (ss_set 6 sc_x_law_lines.nd rfl (by first | exact .inl rfl | exact .inr (.inl rfl) | exact .inr (.inr rfl) | exact .inr rfl) (se_call (calR_fn (ok_x_law_choose G) (hr.mono (by decide)) tk) rfl G.g_x_law_choose G.kp_x_law_choose (sa_cons (so_name 0 rfl (by first | exact .inl rfl | exact .inr (.inl rfl) | exact .inr (.inr rfl) | exact .inr rfl)) (sa_cons (so_of_se (se_of_sn (sn_lst (sa_cons (so_of_se (se_of_sn (sn_lst (sa_cons (so_of_se se_str) sa_nil)))) (sa_cons (so_of_se (se_of_sn (sn_lst (sa_cons (so_of_se se_str) (sa_cons (so_of_se se_str) sa_nil))))) (sa_cons (so_of_se (se_of_sn (sn_lst (sa_cons (so_of_se se_str) (sa_cons (so_of_se se_str) (sa_cons (so_of_se se_str) sa_nil)))))) (sa_cons (so_of_se (se_of_sn (sn_lst (sa_cons (so_of_se se_str) (sa_cons (so_of_se se_str) sa_nil))))) sa_nil))))))) sa_nil)))) (ss_cons (ss_for po rfl (si_range1 rfl G.b_range (sa_cons (so_name 5 rfl (by first | exact .inl rfl | exact .inr (.inl rfl) | exact .inr (.inr rfl) | exact .inr rfl)) sa_nil)) (sg_nm 7 sc_x_law_lines.nd rfl (by first | exact .inl rfl | exact .inr (.inl rfl) | exact .inr (.inr rfl) | exact .inr rfl)) (ss_cons (ss_set 8 sc_x_law_lines.nd rfl (by first | exact .inl rfl | exact .inr (.inl rfl) | exact .inr (.inr rfl) | exact .inr rfl) (se_tup (sa_cons (so_of_se (se_call (calR_fn (ok_x_law_choose G) (hr.mono (by decide)) tk) rfl G.g_x_law_choose G.kp_x_law_choose (sa_cons (so_name 0 rfl (by first | exact .inl rfl | exact .inr (.inl rfl) | exact .inr (.inr rfl) | exact .inr rfl)) (sa_cons (so_name 6 rfl (by first | exact .inl rfl | exact .inr (.inl rfl) | exact .inr (.inr rfl) | exact .inr rfl)) sa_nil)))) (sa_cons (so_of_se (se_call (calR_fn (ok_x_law_draw G) (hr.mono (by decide)) tk) rfl G.g_x_law_draw G.kp_x_law_draw (sa_cons (so_name 0 rfl (by first | exact .inl rfl | exact .inr (.inl rfl) | exact .inr (.inr rfl) | exact .inr rfl)) (sa_cons (so_of_se (se_op2 ow_add (so_name 2 rfl (by first | exact .inl rfl | exact .inr (.inl rfl) | exact .inr (.inr rfl) | exact .inr rfl)) (so_of_se se_int))) sa_nil)))) (sa_cons (so_of_se (se_call (calR_fn (ok_x_law_draw G) (hr.mono (by decide)) tk) rfl G.g_x_law_draw G.kp_x_law_draw (sa_cons (so_name 0 rfl (by first | exact .inl rfl | exact .inr (.inl rfl) | exact .inr (.inr rfl) | exact .inr rfl)) (sa_cons (so_of_se (se_op2 ow_add (so_name 2 rfl (by first | exact .inl rfl | exact .inr (.inl rfl) | exact .inr (.inr rfl) | exact .inr rfl)) (so_of_se se_int))) sa_nil)))) sa_nil))))) (ss_cons (ss_set 9 sc_x_law_lines.nd rfl (by first | exact .inl rfl | exact .inr (.inl rfl) | exact .inr (.inr rfl) | exact .inr rfl) (se_call (calR_fn (ok_x_law_choose G) (hr.mono (by decide)) tk) rfl G.g_x_law_choose G.kp_x_law_choose (sa_cons (so_name 0 rfl (by first | exact .inl rfl | exact .inr (.inl rfl) | exact .inr (.inr rfl) | exact .inr rfl)) (sa_cons (so_of_se (se_of_sn (sn_lst (sa_cons (so_of_se se_int) (sa_cons (so_of_se se_int) (sa_cons (so_of_se (se_op2 ow_add (so_of_se se_int) (so_of_se (se_call (calR_fn (ok_x_law_draw G) (hr.mono (by decide)) tk) rfl G.g_x_law_draw G.kp_x_law_draw (sa_cons (so_name 0 rfl (by first | exact .inl rfl | exact .inr (.inl rfl) | exact .inr (.inr rfl) | exact .inr rfl)) (sa_cons (so_name 3 rfl (by first | exact .inl rfl | exact .inr (.inl rfl) | exact .inr (.inr rfl) | exact .inr rfl)) sa_nil)))))) (sa_cons (so_name 3 rfl (by first | exact .inl rfl | exact .inr (.inl rfl) | exact .inr (.inr rfl) | exact .inr rfl)) sa_nil))))))) sa_nil)))) (ss_one (ss_if (sb_cmp (ow_eq hr.units) (so_of_se (se_of_sn (sn_lc (own := [("_law_row", 10)]) rfl sc_x_law_lines.nd (si_nm 4 rfl (by first | exact .inl rfl | exact .inr (.inl rfl) | exact .inr (.inr rfl) | exact .inr rfl)) (blkOk_by rfl) (fun _ _ _ _ _ => (sg_nm 10 sc_x_law_lines.nd rfl (by first | exact .inl rfl | exact .inr (.inl rfl) | exact .inr (.inr rfl) | exact .inr rfl))) (fun _ _ _ _ _ => (st_one (sb_cmp (ow_eq hr.units) (so_of_se (se_slice (so_name 10 rfl (by first | exact .inl rfl | exact .inr (.inl rfl) | exact .inr (.inr rfl) | exact .inr rfl)) spo_none (spo_some se_int))) (so_name 8 rfl (by first | exact .inl rfl | exact .inr (.inl rfl) | exact .inr (.inr rfl) | exact .inr rfl)) (nomark _)))) (fun _ _ _ _ _ => (se_of_so (so_name 10 rfl (by first | exact .inl rfl | exact .inr (.inl rfl) | exact .inr (.inr rfl) | exact .inr rfl))))))) (so_of_se (se_of_sn (sn_lst sa_nil))) (nomark _)) (ss_one (ss_expr (se_wm 4 PySem.F.plainAttrs_list PySem.F.slot_list_append PySem.F.type_list_append cm_append rfl (by first | exact .inl rfl | exact .inr (.inl rfl) | exact .inr (.inr rfl) | exact .inr rfl) (sa_cons (so_of_se (se_op2 ow_add (so_name 8 rfl (by first | exact .inl rfl | exact .inr (.inl rfl) | exact .inr (.inr rfl) | exact .inr rfl)) (so_of_se (se_tup (sa_cons (so_name 9 rfl (by first | exact .inl rfl | exact .inr (.inl rfl) | exact .inr (.inr rfl) | exact .inr rfl)) sa_nil))))) sa_nil)))) ss_nil))))) (ss_one (ss_ret (se_of_so (so_name 4 rfl (by first | exact .inl rfl | exact .inr (.inl rfl) | exact .inr (.inr rfl) | exact .inr rfl))))))))
/-! ### _law_drawn -/
def m_x_law_drawn : M Fl :=
  (((mCons (mVa ((mCons (mVa ((mCons (mNm 0) (mCons (mVa (M.ret (.int 3))) (mCons (mVa ((mCons (mNm 0) (mCons (mVa (mLst (mCons (mVa (M.ret (.int 1))) (mCons (mVa (M.ret (.int 2))) (mCons (mVa (M.ret (.int 2))) (mCons (mVa (M.ret (.int 9))) (M.ret []))))))) (M.ret []))).bind (mCallF [.mu, .ro] f_x_law_choose))) (mCons (mVa (M.ret (.int 4))) (M.ret []))))).bind (mCallF [.mu, .im, .im, .im] f_x_law_lines))) (M.ret [])).bind (mCallF [.im] f_x_law_text))) (M.ret [])).bind fun hs => mCallF [.im, .im] f_Table_read (.va (.glo 0) :: hs)).bind fun d => M.ret (.rt d))
def f_x_law_drawn : Fn := runDef [.mu] 1 m_x_law_drawn
theorem sc_x_law_drawn : FnScope ["_law_source_here"] ["_law_source_here"] (defScope (top 39)) := ⟨rfl, rfl, rfl, by decide +kernel, rfl, by decide +kernel, by decide +kernel⟩
theorem ok_x_law_drawn (G : Gt K mg base) : FnR P w K mg base (L2.CX P w) 9 (He.ga K "_law_drawn") (spF K [.mu] f_x_law_drawn) := by
  obtain ⟨fd, F⟩ := G.d_x_law_drawn
  exact fnr (N := ["_law_source_here"]) (ps := ["_law_source_here"]) (ms := [.mu]) (m := m_x_law_drawn) F sc_x_law_drawn rfl (fun _ _ _ _ _ _ us hl => match us, hl with | [_], _ => rfl) fun cdv A outer s H E hr tk po =>
    (ss_one (ss_ret (se_cmeth (c := 0) rfl G.g_Table G.cm_Table_read.1 G.cm_Table_read.2 (codR_fn (ok_Table_read G) (hr.mono (by decide)) tk) (sa_cons (so_of_se (se_call (calR_fn (ok_x_law_text G) (hr.mono (by decide)) tk) rfl G.g_x_law_text G.kp_x_law_text (sa_cons (so_of_se (se_call (calR_fn (ok_x_law_lines G) (hr.mono (by decide)) tk) rfl G.g_x_law_lines G.kp_x_law_lines (sa_cons (so_name 0 rfl (by first | exact .inl rfl | exact .inr (.inl rfl) | exact .inr (.inr rfl) | exact .inr rfl)) (sa_cons (so_of_se se_int) (sa_cons (so_of_se (se_call (calR_fn (ok_x_law_choose G) (hr.mono (by decide)) tk) rfl G.g_x_law_choose G.kp_x_law_choose (sa_cons (so_name 0 rfl (by first | exact .inl rfl | exact .inr (.inl rfl) | exact .inr (.inr rfl) | exact .inr rfl)) (sa_cons (so_of_se (se_of_sn (sn_lst (sa_cons (so_of_se se_int) (sa_cons (so_of_se se_int) (sa_cons (so_of_se se_int) (sa_cons (so_of_se se_int) sa_nil))))))) sa_nil)))) (sa_cons (so_of_se se_int) sa_nil)))))) sa_nil))) sa_nil))))
/-! ### Table.__eq__ -/
def m_Table___eq : M Fl :=
  ((mAndD (mIsi [0] (.cls 0) (mNm 1)) (mOp2 dEq (mVa ((mNm 0).bind (mFld [0] 0))) (mVa ((mNm 1).bind (mFld [0] 0))))).bind fun d => M.ret (.rt d))
def f_Table___eq : Fn := runDef [.im, .im] 2 m_Table___eq
theorem sc_Table___eq : FnScope ["self", "other"] ["self", "other"] (defScope (mth 29 11)) := ⟨rfl, rfl, rfl, by decide +kernel, rfl, by decide +kernel, by decide +kernel⟩
theorem ok_Table___eq (G : Gt K mg base) : FnR P w K mg base (L2.CX P w) 1 (He.ma K (ca K 0) "__eq__") (spF K [.im, .im] f_Table___eq) := by
  obtain ⟨fd, F⟩ := G.d_Table___eq
  exact fnr (N := ["self", "other"]) (ps := ["self", "other"]) (ms := [.im, .im]) (m := m_Table___eq) F sc_Table___eq rfl (fun _ _ _ _ _ _ us hl => match us, hl with | [_, _], _ => rfl) fun cdv A outer s H E hr tk po =>
    (ss_one (ss_ret (se_and (se_isi rfl G.b_isinstance G.k_Table (so_name 1 rfl (by first | exact .inl rfl | exact .inr (.inl rfl) | exact .inr (.inr rfl) | exact .inr rfl)) (pe_glob rfl G.g_Table (v := .ref (ca K 0)) rfl)) (se_one (se_cmp (ow_eq hr.units) (so_of_se (se_fld 0 G.fl_0_kept (so_name 0 rfl (by first | exact .inl rfl | exact .inr (.inl rfl) | exact .inr (.inr rfl) | exact .inr rfl)))) (so_of_se (se_fld 0 G.fl_0_kept (so_name 1 rfl (by first | exact .inl rfl | exact .inr (.inl rfl) | exact .inr (.inr rfl) | exact .inr rfl)))) (nomark _))))))
/-! ### Table.rows -/
theorem sc_Table_rows : FnScope ["self"] ["self"] (defScope (mth 29 3)) := ⟨rfl, rfl, rfl, by decide +kernel, rfl, by decide +kernel, by decide +kernel⟩
theorem ok_Table_rows (G : Gt K mg base) : FnR P w K mg base (L2.CX P w) 1 (pga K (ca K 0) "rows") (spF K [.im] f_Table_rows) := by
  obtain ⟨fd, F⟩ := G.d_Table_rows
  exact fnr (N := ["self"]) (ps := ["self"]) (ms := [.im]) (m := m_Table_rows) F sc_Table_rows rfl (fun _ _ _ _ _ _ us hl => match us, hl with | [_], _ => rfl) fun cdv A outer s H E hr tk po =>
    (ss_one (ss_ret (se_fld 0 G.fl_0_kept (so_name 0 rfl (by first | exact .inl rfl | exact .inr (.inl rfl) | exact .inr (.inr rfl) | exact .inr rfl)))))
/-! ### need_table -/
theorem sc_need_table : FnScope ["thing"] ["thing"] (defScope (top 30)) := ⟨rfl, rfl, rfl, by decide +kernel, rfl, by decide +kernel, by decide +kernel⟩
theorem ok_need_table (G : Gt K mg base) : FnR P w K mg base (L2.CX P w) 1 (He.ga K "need_table") (spF K [.im] f_need_table) := by
  obtain ⟨fd, F⟩ := G.d_need_table
  exact fnr (N := ["thing"]) (ps := ["thing"]) (ms := [.im]) (m := m_need_table) F sc_need_table rfl (fun _ _ _ _ _ _ us hl => match us, hl with | [_], _ => rfl) fun cdv A outer s H E hr tk po =>
    (ss_one (ss_if (sb_not (sb_val (se_isi rfl G.b_isinstance G.k_Table (so_name 0 rfl (by first | exact .inl rfl | exact .inr (.inl rfl) | exact .inr (.inr rfl) | exact .inr rfl)) (pe_glob rfl G.g_Table (v := .ref (ca K 0)) rfl)))) (ss_one (ss_raiseC 15 rfl tk rfl G.ex_NoTable G.g_NoTable rfl)) ss_nil))
/-! ### table_of -/
theorem sc_table_of : FnScope ["rows"] ["rows"] (defScope (top 28)) := ⟨rfl, rfl, rfl, by decide +kernel, rfl, by decide +kernel, by decide +kernel⟩
theorem ok_table_of (G : Gt K mg base) : FnR P w K mg base (L2.CX P w) 8 (He.ga K "table_of") (spF K [.im] f_table_of) := by
  obtain ⟨fd, F⟩ := G.d_table_of
  exact fnr (N := ["rows"]) (ps := ["rows"]) (ms := [.im]) (m := m_table_of) F sc_table_of rfl (fun _ _ _ _ _ _ us hl => match us, hl with | [_], _ => rfl) fun cdv A outer s H E hr tk po =>
    (ss_cons (ss_if (sb_not (sb_val (se_call (calR_fn (ok_are_rows G) (hr.mono (by decide)) tk) rfl G.g_are_rows G.kp_are_rows (sa_cons (so_name 0 rfl (by first | exact .inl rfl | exact .inr (.inl rfl) | exact .inr (.inr rfl) | exact .inr rfl)) sa_nil)))) (ss_one (ss_raiseC 18 rfl tk rfl G.ex_TooMuch G.g_TooMuch rfl)) ss_nil) (ss_one (ss_ret (se_of_sn (sn_mkS (c := 0) (calR_mk G.mk_0 (ok_Table___init G) (hr.mono (by decide)) tk) rfl G.g_Table G.kp_Table (se_of_so (so_name 0 rfl (by first | exact .inl rfl | exact .inr (.inl rfl) | exact .inr (.inr rfl) | exact .inr rfl))))))))
/-! ### added -/
theorem sc_added : FnScope ["rows", "others", "found", "row", "key", "often"] ["rows", "others"] (defScope (top 26)) := ⟨rfl, rfl, rfl, by decide +kernel, rfl, by decide +kernel, by decide +kernel⟩
theorem ok_added (G : Gt K mg base) : FnR P w K mg base (L2.CX P w) 1 (He.ga K "added") (spF K [.im, .im] f_added) := by
  obtain ⟨fd, F⟩ := G.d_added
  exact fnr (N := ["rows", "others", "found", "row", "key", "often"]) (ps := ["rows", "others"]) (ms := [.im, .im]) (m := m_added) F sc_added rfl (fun _ _ _ _ _ _ us hl => match us, hl with | [_, _], _ => rfl) fun cdv A outer s H E hr tk po =>
    (ss_cons (ss_setN 2 sc_added.nd rfl (by first | exact .inl rfl | exact .inr (.inl rfl) | exact .inr (.inr rfl) | exact .inr rfl) (sn_callTy (cw_dict rfl hr.units) rfl G.b_dict (by decide +kernel) (sa_cons (so_of_se (se_of_sn (sn_lc (own := [("row", 3)]) rfl sc_added.nd (si_nm 0 rfl (by first | exact .inl rfl | exact .inr (.inl rfl) | exact .inr (.inr rfl) | exact .inr rfl)) (blkOk_by rfl) (fun _ _ _ _ _ => (sg_nm 3 sc_added.nd rfl (by first | exact .inl rfl | exact .inr (.inl rfl) | exact .inr (.inr rfl) | exact .inr rfl))) (fun _ _ _ _ _ => st_nil) (fun _ _ _ _ _ => (se_tup (sa_cons (so_of_se (se_sliceK (so_name 3 rfl (by first | exact .inl rfl | exact .inr (.inl rfl) | exact .inr (.inr rfl) | exact .inr rfl)) spo_none (spo_some se_int))) (sa_cons (so_of_se (se_ix ow_ix (so_name 3 rfl (by first | exact .inl rfl | exact .inr (.inl rfl) | exact .inr (.inr rfl) | exact .inr rfl)) (so_of_se se_int) (fun _ _ => rfl))) sa_nil))))))) sa_nil))) (ss_cons (ss_for po rfl (si_nm 1 rfl (by first | exact .inl rfl | exact .inr (.inl rfl) | exact .inr (.inr rfl) | exact .inr rfl)) (sg_nm 3 sc_added.nd rfl (by first | exact .inl rfl | exact .inr (.inl rfl) | exact .inr (.inr rfl) | exact .inr rfl)) (ss_one (ss_setIx (T := "dict") 2 (wset_dict hr.units) rfl (by first | exact .inl rfl | exact .inr (.inl rfl) | exact .inr (.inr rfl) | exact .inr rfl) (se_op2 ow_add (so_of_se (se_wm 2 PySem.F.plainAttrs_dict PySem.F.slot_dict_get PySem.F.type_dict_get (cm_get hr.units) rfl (by first | exact .inl rfl | exact .inr (.inl rfl) | exact .inr (.inr rfl) | exact .inr rfl) (sa_cons (so_of_se (se_sliceK (so_name 3 rfl (by first | exact .inl rfl | exact .inr (.inl rfl) | exact .inr (.inr rfl) | exact .inr rfl)) spo_none (spo_some se_int))) (sa_cons (so_of_se se_int) sa_nil)))) (so_of_se (se_ix ow_ix (so_name 3 rfl (by first | exact .inl rfl | exact .inr (.inl rfl) | exact .inr (.inr rfl) | exact .inr rfl)) (so_of_se se_int) (fun _ _ => rfl)))) (se_sliceK (so_name 3 rfl (by first | exact .inl rfl | exact .inr (.inl rfl) | exact .inr (.inr rfl) | exact .inr rfl)) spo_none (spo_some se_int))))) (ss_one (ss_ret (se_of_sn (sn_lcI (own := [("key", 4), ("often", 5)]) 2 rfl sc_added.nd rfl (by first | exact .inl rfl | exact .inr (.inl rfl) | exact .inr (.inr rfl) | exact .inr rfl) (blkOk_by rfl) (fun _ _ _ _ _ => (sg_tup (n := 2) rfl (sg_cons (sg_nm 4 sc_added.nd rfl (by first | exact .inl rfl | exact .inr (.inl rfl) | exact .inr (.inr rfl) | exact .inr rfl)) (sg_cons (sg_nm 5 sc_added.nd rfl (by first | exact .inl rfl | exact .inr (.inl rfl) | exact .inr (.inr rfl) | exact .inr rfl)) sg_nil)))) (fun _ _ _ _ _ => (se_op2 ow_add (so_name 4 rfl (by first | exact .inl rfl | exact .inr (.inl rfl) | exact .inr (.inr rfl) | exact .inr rfl)) (so_of_se (se_tup (sa_cons (so_name 5 rfl (by first | exact .inl rfl | exact .inr (.inl rfl) | exact .inr (.inr rfl) | exact .inr rfl)) sa_nil)))))))))))
/-! ### Table.__add__ -/
theorem sc_Table___add : FnScope ["self", "other"] ["self", "other"] (defScope (mth 29 8)) := ⟨rfl, rfl, rfl, by decide +kernel, rfl, by decide +kernel, by decide +kernel⟩
theorem ok_Table___add (G : Gt K mg base) : FnR P w K mg base (L2.CX P w) 9 (He.ma K (ca K 0) "__add__") (spF K [.im, .im] f_Table___add) := by
  obtain ⟨fd, F⟩ := G.d_Table___add
  exact fnr (N := ["self", "other"]) (ps := ["self", "other"]) (ms := [.im, .im]) (m := m_Table___add) F sc_Table___add rfl (fun _ _ _ _ _ _ us hl => match us, hl with | [_, _], _ => rfl) fun cdv A outer s H E hr tk po =>
    (ss_cons (ss_expr (se_call (calR_fn (ok_need_table G) (hr.mono (by decide)) tk) rfl G.g_need_table G.kp_need_table (sa_cons (so_name 1 rfl (by first | exact .inl rfl | exact .inr (.inl rfl) | exact .inr (.inr rfl) | exact .inr rfl)) sa_nil))) (ss_one (ss_ret (se_call (calR_fn (ok_table_of G) (hr.mono (by decide)) tk) rfl G.g_table_of G.kp_table_of (sa_cons (so_of_se (se_call (calR_fn (ok_added G) (hr.mono (by decide)) tk) rfl G.g_added G.kp_added (sa_cons (so_of_se (se_fld 0 G.fl_0_kept (so_name 0 rfl (by first | exact .inl rfl | exact .inr (.inl rfl) | exact .inr (.inr rfl) | exact .inr rfl)))) (sa_cons (so_of_se (se_prop (k := 1) (cs := [0]) (md := .im) (f := fun _ => f_Table_rows) (so_name 1 rfl (by first | exact .inl rfl | exact .inr (.inl rfl) | exact .inr (.inr rfl) | exact .inr rfl)) (fun c hc => by cases hc with | head => exact ⟨_, _, G.cl_0, G.pr_Table_rows, ok_Table_rows G⟩ | tail _ h => cases h) (hr.mono (by decide)))) sa_nil)))) sa_nil)))))
/-! ### _law_of_rows -/
def i_x_law_of_rows_1 : M (List D) :=
  (mIt ((mNm 0).bind (mProp [0] .im (fun _ => f_Table_rows))))
def b_x_law_of_rows_2 : M Fl :=
  (mSet 1 (mIopA 0 (fun h h2 => mCallF [.im, .im] f_Table___add [h, h2]) (mVa (mMkA 0 f_Table___init (mCons (mNm 2) (M.ret [])))) (mNm 1)))
def m_x_law_of_rows : M Fl :=
  (mSeq (mSet 1 (mMk 0 f_Table___init [.tup []]))
    (mSeq (mFor none i_x_law_of_rows_1 (tgNm 2) b_x_law_of_rows_2)
    ((mFz 1).bind fun d => M.ret (.rt d))))
def f_x_law_of_rows : Fn := runDef [.im] 3 m_x_law_of_rows
theorem sc_x_law_of_rows : FnScope ["_law_table", "_law_found", "_law_row"] ["_law_table"] (defScope (top 41)) := ⟨rfl, rfl, rfl, by decide +kernel, rfl, by decide +kernel, by decide +kernel⟩
theorem ok_x_law_of_rows (G : Gt K mg base) : FnR P w K mg base (L2.CX P w) 10 (He.ga K "_law_of_rows") (spF K [.im] f_x_law_of_rows) := by
  obtain ⟨fd, F⟩ := G.d_x_law_of_rows
  exact fnr (N := ["_law_table", "_law_found", "_law_row"]) (ps := ["_law_table"]) (ms := [.im]) (m := m_x_law_of_rows) F sc_x_law_of_rows rfl (fun _ _ _ _ _ _ us hl => match us, hl with | [_], _ => rfl) fun cdv A outer s H E hr tk po =>
    (ss_cons (ss_set 1 sc_x_law_of_rows.nd rfl (by first | exact .inl rfl | exact .inr (.inl rfl) | exact .inr (.inr rfl) | exact .inr rfl) (se_of_sn (sn_mkA0 (c := 0) (calR_mk G.mk_0 (ok_Table___init G) (hr.mono (by decide)) tk) rfl G.g_Table G.kp_Table))) (ss_cons (ss_for po rfl (si_val (se_prop (k := 1) (cs := [0]) (md := .im) (f := fun _ => f_Table_rows) (so_name 0 rfl (by first | exact .inl rfl | exact .inr (.inl rfl) | exact .inr (.inr rfl) | exact .inr rfl)) (fun c hc => by cases hc with | head => exact ⟨_, _, G.cl_0, G.pr_Table_rows, ok_Table_rows G⟩ | tail _ h => cases h) (hr.mono (by decide)))) (sg_nm 2 sc_x_law_of_rows.nd rfl (by first | exact .inl rfl | exact .inr (.inl rfl) | exact .inr (.inr rfl) | exact .inr rfl)) (ss_one (ss_set 1 sc_x_law_of_rows.nd rfl (by first | exact .inl rfl | exact .inr (.inl rfl) | exact .inr (.inr rfl) | exact .inr rfl) (se_iopA (c := 0) (ms := [.im, .im]) (f := f_Table___add) (so_of_se (se_of_sn (sn_mkA (c := 0) (calR_mk G.mk_0 (ok_Table___init G) (hr.mono (by decide)) tk) rfl G.g_Table G.kp_Table (sa_cons (so_name 2 rfl (by first | exact .inl rfl | exact .inr (.inl rfl) | exact .inr (.inr rfl) | exact .inr rfl)) sa_nil)))) (so_name 1 rfl (by first | exact .inl rfl | exact .inr (.inl rfl) | exact .inr (.inr rfl) | exact .inr rfl)) G.sf_0 G.me_Table___add (by decide) G.nr_0_add (codR_fn (ok_Table___add G) (hr.mono (by decide)) tk))))) (ss_one (ss_ret (se_of_so (so_name 1 rfl (by first | exact .inl rfl | exact .inr (.inl rfl) | exact .inr (.inr rfl) | exact .inr rfl)))))))
/-! ### shifted -/
theorem sc_shifted : FnScope ["rows", "more", "kind", "left", "right", "often"] ["rows", "more"] (defScope (top 24)) := ⟨rfl, rfl, rfl, by decide +kernel, rfl, by decide +kernel, by decide +kernel⟩
theorem ok_shifted (G : Gt K mg base) : FnR P w K mg base (L2.CX P w) 1 (He.ga K "shifted") (spF K [.im, .im] f_shifted) := by
  obtain ⟨fd, F⟩ := G.d_shifted
  exact fnr (N := ["rows", "more", "kind", "left", "right", "often"]) (ps := ["rows", "more"]) (ms := [.im, .im]) (m := m_shifted) F sc_shifted rfl (fun _ _ _ _ _ _ us hl => match us, hl with | [_, _], _ => rfl) fun cdv A outer s H E hr tk po =>
    (ss_one (ss_ret (se_of_sn (sn_lc (own := [("kind", 2), ("left", 3), ("right", 4), ("often", 5)]) rfl sc_shifted.nd (si_nm 0 rfl (by first | exact .inl rfl | exact .inr (.inl rfl) | exact .inr (.inr rfl) | exact .inr rfl)) (blkOk_by rfl) (fun _ _ _ _ _ => (sg_tup (n := 4) rfl (sg_cons (sg_nm 2 sc_shifted.nd rfl (by first | exact .inl rfl | exact .inr (.inl rfl) | exact .inr (.inr rfl) | exact .inr rfl)) (sg_cons (sg_nm 3 sc_shifted.nd rfl (by first | exact .inl rfl | exact .inr (.inl rfl) | exact .inr (.inr rfl) | exact .inr rfl)) (sg_cons (sg_nm 4 sc_shifted.nd rfl (by first | exact .inl rfl | exact .inr (.inl rfl) | exact .inr (.inr rfl) | exact .inr rfl)) (sg_cons (sg_nm 5 sc_shifted.nd rfl (by first | exact .inl rfl | exact .inr (.inl rfl) | exact .inr (.inr rfl) | exact .inr rfl)) sg_nil)))))) (fun _ _ _ _ _ => st_nil) (fun _ _ _ _ _ => (se_tup (sa_cons (so_name 2 rfl (by first | exact .inl rfl | exact .inr (.inl rfl) | exact .inr (.inr rfl) | exact .inr rfl)) (sa_cons (so_of_se (se_op2 ow_add (so_name 3 rfl (by first | exact .inl rfl | exact .inr (.inl rfl) | exact .inr (.inr rfl) | exact .inr rfl)) (so_name 1 rfl (by first | exact .inl rfl | exact .inr (.inl rfl) | exact .inr (.inr rfl) | exact .inr rfl)))) (sa_cons (so_of_se (se_op2 ow_add (so_name 4 rfl (by first | exact .inl rfl | exact .inr (.inl rfl) | exact .inr (.inr rfl) | exact .inr rfl)) (so_name 1 rfl (by first | exact .inl rfl | exact .inr (.inl rfl) | exact .inr (.inr rfl) | exact .inr rfl)))) (sa_cons (so_name 5 rfl (by first | exact .inl rfl | exact .inr (.inl rfl) | exact .inr (.inr rfl) | exact .inr rfl)) sa_nil))))))))))
/-! ### greatest -/
theorem sc_greatest : FnScope ["rows", "row"] ["rows"] (defScope (top 25)) := ⟨rfl, rfl, rfl, by decide +kernel, rfl, by decide +kernel, by decide +kernel⟩
theorem ok_greatest (G : Gt K mg base) : FnR P w K mg base (L2.CX P w) 1 (He.ga K "greatest") (spF K [.im] f_greatest) := by
  obtain ⟨fd, F⟩ := G.d_greatest
  exact fnr (N := ["rows", "row"]) (ps := ["rows"]) (ms := [.im]) (m := m_greatest) F sc_greatest rfl (fun _ _ _ _ _ _ us hl => match us, hl with | [_], _ => rfl) fun cdv A outer s H E hr tk po =>
    (ss_one (ss_ret (se_maxDef rfl hr.units rfl G.b_max (by decide +kernel) (sa_cons (so_of_se (se_of_sn (sn_lc (own := [("row", 1)]) rfl sc_greatest.nd (si_nm 0 rfl (by first | exact .inl rfl | exact .inr (.inl rfl) | exact .inr (.inr rfl) | exact .inr rfl)) (blkOk_by rfl) (fun _ _ _ _ _ => (sg_nm 1 sc_greatest.nd rfl (by first | exact .inl rfl | exact .inr (.inl rfl) | exact .inr (.inr rfl) | exact .inr rfl))) (fun _ _ _ _ _ => st_nil) (fun _ _ _ _ _ => (se_callB (cw_max2 rfl) rfl G.b_max (by decide +kernel) (sa_cons (so_of_se (se_ix ow_ix (so_name 1 rfl (by first | exact .inl rfl | exact .inr (.inl rfl) | exact .inr (.inr rfl) | exact .inr rfl)) (so_of_se se_int) (fun _ _ => rfl))) (sa_cons (so_of_se (se_ix ow_ix (so_name 1 rfl (by first | exact .inl rfl | exact .inr (.inl rfl) | exact .inr (.inr rfl) | exact .inr rfl)) (so_of_se se_int) (fun _ _ => rfl))) sa_nil))))))) sa_nil) (se_op1 ow_neg (so_of_se se_int)))))
/-! ### Table.__or__ -/
theorem sc_Table___or : FnScope ["self", "other"] ["self", "other"] (defScope (mth 29 9)) := ⟨rfl, rfl, rfl, by decide +kernel, rfl, by decide +kernel, by decide +kernel⟩
theorem ok_Table___or (G : Gt K mg base) : FnR P w K mg base (L2.CX P w) 9 (He.ma K (ca K 0) "__or__") (spF K [.im, .im] f_Table___or) := by
  obtain ⟨fd, F⟩ := G.d_Table___or
  exact fnr (N := ["self", "other"]) (ps := ["self", "other"]) (ms := [.im, .im]) (m := m_Table___or) F sc_Table___or rfl (fun _ _ _ _ _ _ us hl => match us, hl with | [_, _], _ => rfl) fun cdv A outer s H E hr tk po =>
    (ss_cons (ss_expr (se_call (calR_fn (ok_need_table G) (hr.mono (by decide)) tk) rfl G.g_need_table G.kp_need_table (sa_cons (so_name 1 rfl (by first | exact .inl rfl | exact .inr (.inl rfl) | exact .inr (.inr rfl) | exact .inr rfl)) sa_nil))) (ss_one (ss_ret (se_call (calR_fn (ok_table_of G) (hr.mono (by decide)) tk) rfl G.g_table_of G.kp_table_of (sa_cons (so_of_se (se_op2 ow_add (so_of_se (se_of_sn (sn_callTy cw_list rfl G.b_list (by decide +kernel) (sa_cons (so_of_se (se_fld 0 G.fl_0_kept (so_name 0 rfl (by first | exact .inl rfl | exact .inr (.inl rfl) | exact .inr (.inr rfl) | exact .inr rfl)))) sa_nil)))) (so_of_se (se_call (calR_fn (ok_shifted G) (hr.mono (by decide)) tk) rfl G.g_shifted G.kp_shifted (sa_cons (so_of_se (se_prop (k := 1) (cs := [0]) (md := .im) (f := fun _ => f_Table_rows) (so_name 1 rfl (by first | exact .inl rfl | exact .inr (.inl rfl) | exact .inr (.inr rfl) | exact .inr rfl)) (fun c hc => by cases hc with | head => exact ⟨_, _, G.cl_0, G.pr_Table_rows, ok_Table_rows G⟩ | tail _ h => cases h) (hr.mono (by decide)))) (sa_cons (so_of_se (se_op2 ow_add (so_of_se (se_call (calR_fn (ok_greatest G) (hr.mono (by decide)) tk) rfl G.g_greatest G.kp_greatest (sa_cons (so_of_se (se_fld 0 G.fl_0_kept (so_name 0 rfl (by first | exact .inl rfl | exact .inr (.inl rfl) | exact .inr (.inr rfl) | exact .inr rfl)))) sa_nil))) (so_of_se se_int))) sa_nil)))))) sa_nil)))))
/-! ### _law_told -/
noncomputable def m_x_law_told (fl : Addr) (F0 : Hp) (r : Option Nat) (d : D) : M Fl :=
  (mTry [10, 11, 12, 13, 14, 15, 18] ((mAct fl F0 r d).bind fun d => M.ret (.rt d)) [(18, ((M.ret (.str "much")).bind fun d => M.ret (.rt d)))])
theorem sc_x_law_told : FnScope ["_law_call"] ["_law_call"] (defScope (top 40)) := ⟨rfl, rfl, rfl, by decide +kernel, rfl, by decide +kernel, by decide +kernel⟩
theorem ok_x_law_told (G : Gt K mg base) (n : Nat) : FnL P w K mg base (n + 1) (He.ga K "_law_told") ["_law_call"] "_law_told" (defScope (top 40)) "_law_call" m_x_law_told := by
  obtain ⟨fd, F⟩ := G.d_x_law_told
  exact fnl (Nat.le_add_left 0 n) F sc_x_law_told (fun _ _ _ _ _ _ us hl => match us, hl with | [_], _ => rfl) fun cdv A outer s H E fl F0 r d hr tk po act =>
    (ss_one (ss_try (cs := [10, 11, 12, 13, 14, 15, 18]) rfl rfl tk (exm_hs G.xm_18 rfl) (fun _ _ _ tk1 po1 => (ss_one (ss_ret (se_act act tk1)))) (hd_cons (c := 18) rfl G.g_TooMuch (by decide) (fun _ _ => (ss_one (ss_ret se_str))) hd_nil)))
/-! ### paired -/
theorem sc_paired : FnScope ["rows", "others", "found", "kind", "left", "right", "often", "other"] ["rows", "others"] (defScope (top 27)) := ⟨rfl, rfl, rfl, by decide +kernel, rfl, by decide +kernel, by decide +kernel⟩
theorem ok_paired (G : Gt K mg base) : FnR P w K mg base (L2.CX P w) 1 (He.ga K "paired") (spF K [.im, .im] f_paired) := by
  obtain ⟨fd, F⟩ := G.d_paired
  exact fnr (N := ["rows", "others", "found", "kind", "left", "right", "often", "other"]) (ps := ["rows", "others"]) (ms := [.im, .im]) (m := m_paired) F sc_paired rfl (fun _ _ _ _ _ _ us hl => match us, hl with | [_, _], _ => rfl) fun cdv A outer s H E hr tk po =>
    (ss_cons (ss_setN 2 sc_paired.nd rfl (by first | exact .inl rfl | exact .inr (.inl rfl) | exact .inr (.inr rfl) | exact .inr rfl) (sn_lst sa_nil)) (ss_cons (ss_for po rfl (si_nm 0 rfl (by first | exact .inl rfl | exact .inr (.inl rfl) | exact .inr (.inr rfl) | exact .inr rfl)) (sg_tup (n := 4) rfl (sg_cons (sg_nm 3 sc_paired.nd rfl (by first | exact .inl rfl | exact .inr (.inl rfl) | exact .inr (.inr rfl) | exact .inr rfl)) (sg_cons (sg_nm 4 sc_paired.nd rfl (by first | exact .inl rfl | exact .inr (.inl rfl) | exact .inr (.inr rfl) | exact .inr rfl)) (sg_cons (sg_nm 5 sc_paired.nd rfl (by first | exact .inl rfl | exact .inr (.inl rfl) | exact .inr (.inr rfl) | exact .inr rfl)) (sg_cons (sg_nm 6 sc_paired.nd rfl (by first | exact .inl rfl | exact .inr (.inl rfl) | exact .inr (.inr rfl) | exact .inr rfl)) sg_nil))))) (ss_one (ss_for po rfl (si_nm 1 rfl (by first | exact .inl rfl | exact .inr (.inl rfl) | exact .inr (.inr rfl) | exact .inr rfl)) (sg_nm 7 sc_paired.nd rfl (by first | exact .inl rfl | exact .inr (.inl rfl) | exact .inr (.inr rfl) | exact .inr rfl)) (ss_one (ss_if (sb_cmp (ow_eq hr.units) (so_of_se (se_ix ow_ix (so_name 7 rfl (by first | exact .inl rfl | exact .inr (.inl rfl) | exact .inr (.inr rfl) | exact .inr rfl)) (so_of_se se_int) (fun _ _ => rfl))) (so_name 3 rfl (by first | exact .inl rfl | exact .inr (.inl rfl) | exact .inr (.inr rfl) | exact .inr rfl)) (nomark _)) (ss_one (ss_expr (se_wm 2 PySem.F.plainAttrs_list PySem.F.slot_list_append PySem.F.type_list_append cm_append rfl (by first | exact .inl rfl | exact .inr (.inl rfl) | exact .inr (.inr rfl) | exact .inr rfl) (sa_cons (so_of_se (se_tup (sa_cons (so_name 3 rfl (by first | exact .inl rfl | exact .inr (.inl rfl) | exact .inr (.inr rfl) | exact .inr rfl)) (sa_cons (so_of_se (se_op2 ow_add (so_of_se (se_op2 ow_mul (so_of_se se_int) (so_name 4 rfl (by first | exact .inl rfl | exact .inr (.inl rfl) | exact .inr (.inr rfl) | exact .inr rfl)))) (so_of_se (se_ix ow_ix (so_name 7 rfl (by first | exact .inl rfl | exact .inr (.inl rfl) | exact .inr (.inr rfl) | exact .inr rfl)) (so_of_se se_int) (fun _ _ => rfl))))) (sa_cons (so_of_se (se_op2 ow_add (so_of_se (se_op2 ow_mul (so_of_se se_int) (so_name 5 rfl (by first | exact .inl rfl | exact .inr (.inl rfl) | exact .inr (.inr rfl) | exact .inr rfl)))) (so_of_se (se_ix ow_ix (so_name 7 rfl (by first | exact .inl rfl | exact .inr (.inl rfl) | exact .inr (.inr rfl) | exact .inr rfl)) (so_of_se se_int) (fun _ _ => rfl))))) (sa_cons (so_of_se (se_op2 ow_mul (so_name 6 rfl (by first | exact .inl rfl | exact .inr (.inl rfl) | exact .inr (.inr rfl) | exact .inr rfl)) (so_of_se (se_ix ow_ix (so_name 7 rfl (by first | exact .inl rfl | exact .inr (.inl rfl) | exact .inr (.inr rfl) | exact .inr rfl)) (so_of_se se_int) (fun _ _ => rfl))))) sa_nil)))))) sa_nil)))) ss_nil))))) (ss_one (ss_ret (se_of_so (so_name 2 rfl (by first | exact .inl rfl | exact .inr (.inl rfl) | exact .inr (.inr rfl) | exact .inr rfl)))))))
/-! ### Table.__mul__ -/
theorem sc_Table___mul : FnScope ["self", "other"] ["self", "other"] (defScope (mth 29 10)) := ⟨rfl, rfl, rfl, by decide +kernel, rfl, by decide +kernel, by decide +kernel⟩
theorem ok_Table___mul (G : Gt K mg base) : FnR P w K mg base (L2.CX P w) 9 (He.ma K (ca K 0) "__mul__") (spF K [.im, .im] f_Table___mul) := by
  obtain ⟨fd, F⟩ := G.d_Table___mul
  exact fnr (N := ["self", "other"]) (ps := ["self", "other"]) (ms := [.im, .im]) (m := m_Table___mul) F sc_Table___mul rfl (fun _ _ _ _ _ _ us hl => match us, hl with | [_, _], _ => rfl) fun cdv A outer s H E hr tk po =>
    (ss_cons (ss_expr (se_call (calR_fn (ok_need_table G) (hr.mono (by decide)) tk) rfl G.g_need_table G.kp_need_table (sa_cons (so_name 1 rfl (by first | exact .inl rfl | exact .inr (.inl rfl) | exact .inr (.inr rfl) | exact .inr rfl)) sa_nil))) (ss_cons (ss_if (sb_w (sw_or (sb_cmp (owI op_gt) (so_of_se (se_call (calR_fn (ok_greatest G) (hr.mono (by decide)) tk) rfl G.g_greatest G.kp_greatest (sa_cons (so_of_se (se_fld 0 G.fl_0_kept (so_name 0 rfl (by first | exact .inl rfl | exact .inr (.inl rfl) | exact .inr (.inr rfl) | exact .inr rfl)))) sa_nil))) (so_of_se (se_gint rfl G.c_SMALL)) (nomark _)) (sw_or1 (sb_cmp (owI op_gt) (so_of_se (se_call (calR_fn (ok_greatest G) (hr.mono (by decide)) tk) rfl G.g_greatest G.kp_greatest (sa_cons (so_of_se (se_prop (k := 1) (cs := [0]) (md := .im) (f := fun _ => f_Table_rows) (so_name 1 rfl (by first | exact .inl rfl | exact .inr (.inl rfl) | exact .inr (.inr rfl) | exact .inr rfl)) (fun c hc => by cases hc with | head => exact ⟨_, _, G.cl_0, G.pr_Table_rows, ok_Table_rows G⟩ | tail _ h => cases h) (hr.mono (by decide)))) sa_nil))) (so_of_se (se_gint rfl G.c_SMALL)) (nomark _))))) (ss_one (ss_raiseC 18 rfl tk rfl G.ex_TooMuch G.g_TooMuch rfl)) ss_nil) (ss_one (ss_ret (se_call (calR_fn (ok_table_of G) (hr.mono (by decide)) tk) rfl G.g_table_of G.kp_table_of (sa_cons (so_of_se (se_call (calR_fn (ok_paired G) (hr.mono (by decide)) tk) rfl G.g_paired G.kp_paired (sa_cons (so_of_se (se_fld 0 G.fl_0_kept (so_name 0 rfl (by first | exact .inl rfl | exact .inr (.inl rfl) | exact .inr (.inr rfl) | exact .inr rfl)))) (sa_cons (so_of_se (se_prop (k := 1) (cs := [0]) (md := .im) (f := fun _ => f_Table_rows) (so_name 1 rfl (by first | exact .inl rfl | exact .inr (.inl rfl) | exact .inr (.inr rfl) | exact .inr rfl)) (fun c hc => by cases hc with | head => exact ⟨_, _, G.cl_0, G.pr_Table_rows, ok_Table_rows G⟩ | tail _ h => cases h) (hr.mono (by decide)))) sa_nil)))) sa_nil))))))
/-! ### _law_agree -/
def m_x_law_agree : M Fl :=
  ((mOrD (mPik 0 (mIopA 0 (fun h h2 => mCallF [.im, .im] f_Table___eq [h, h2]) (mNm 0) (mVa (M.ret (.str "much")))) (mOp2 dEq (mNm 0) (mVa (M.ret (.str "much"))))) (mOrD (mPik 1 (mIopA 0 (fun h h2 => mCallF [.im, .im] f_Table___eq [h, h2]) (mNm 1) (mVa (M.ret (.str "much")))) (mOp2 dEq (mNm 1) (mVa (M.ret (.str "much"))))) (mAndD (mIopA 0 (fun h h2 => mCallF [.im, .im] f_Table___eq [h, h2]) (mNm 0) (mNm 1)) (mOp2 dEq (mVa ((mNm 0).bind (mMth0 [0] [.im] (fun _ => f_Table_text)))) (mVa ((mNm 1).bind (mMth0 [0] [.im] (fun _ => f_Table_text)))))))).bind fun d => M.ret (.rt d))
def f_x_law_agree : Fn := runDef [.im, .im] 2 m_x_law_agree
theorem sc_x_law_agree : FnScope ["_law_one", "_law_two"] ["_law_one", "_law_two"] (defScope (top 42)) := ⟨rfl, rfl, rfl, by decide +kernel, rfl, by decide +kernel, by decide +kernel⟩
theorem ok_x_law_agree (G : Gt K mg base) : FnR P w K mg base (L2.CX P w) 2 (He.ga K "_law_agree") (spF K [.im, .im] f_x_law_agree) := by
  obtain ⟨fd, F⟩ := G.d_x_law_agree
  exact fnr (N := ["_law_one", "_law_two"]) (ps := ["_law_one", "_law_two"]) (ms := [.im, .im]) (m := m_x_law_agree) F sc_x_law_agree rfl (fun _ _ _ _ _ _ us hl => match us, hl with | [_, _], _ => rfl) fun cdv A outer s H E hr tk po =>
    (ss_one (ss_ret (se_or (se_pick 0 (se_icmpA (c := 0) (ms := [.im, .im]) (f := f_Table___eq) (so_name 0 rfl (by first | exact .inl rfl | exact .inr (.inl rfl) | exact .inr (.inr rfl) | exact .inr rfl)) (so_of_se se_str) hr.units0 G.me_Table___eq (codR_fn (ok_Table___eq G) (hr.mono (by decide)) tk) (nomark _)) (se_cmp (ow_eq hr.units) (so_name 0 rfl (by first | exact .inl rfl | exact .inr (.inl rfl) | exact .inr (.inr rfl) | exact .inr rfl)) (so_of_se se_str) (nomark _))) (se_or (se_pick 1 (se_icmpA (c := 0) (ms := [.im, .im]) (f := f_Table___eq) (so_name 1 rfl (by first | exact .inl rfl | exact .inr (.inl rfl) | exact .inr (.inr rfl) | exact .inr rfl)) (so_of_se se_str) hr.units0 G.me_Table___eq (codR_fn (ok_Table___eq G) (hr.mono (by decide)) tk) (nomark _)) (se_cmp (ow_eq hr.units) (so_name 1 rfl (by first | exact .inl rfl | exact .inr (.inl rfl) | exact .inr (.inr rfl) | exact .inr rfl)) (so_of_se se_str) (nomark _))) (se_one (se_and (se_icmpA (c := 0) (ms := [.im, .im]) (f := f_Table___eq) (so_name 0 rfl (by first | exact .inl rfl | exact .inr (.inl rfl) | exact .inr (.inr rfl) | exact .inr rfl)) (so_name 1 rfl (by first | exact .inl rfl | exact .inr (.inl rfl) | exact .inr (.inr rfl) | exact .inr rfl)) hr.units0 G.me_Table___eq (codR_fn (ok_Table___eq G) (hr.mono (by decide)) tk) (nomark _)) (se_one (se_cmp (ow_eq hr.units) (so_of_se (se_meth0 (cs := [0]) (ms := [.im]) (f := fun _ => f_Table_text) (so_name 0 rfl (by first | exact .inl rfl | exact .inr (.inl rfl) | exact .inr (.inr rfl) | exact .inr rfl)) (fun c hc => by cases hc with | head => exact ⟨_, G.cl_0, G.me_Table_text, (codR_fn (ok_Table_text G) (hr.mono (by decide)) tk)⟩ | tail _ h => cases h) (fun i h => by match i, h with | 0, _ => decide | 1, _ => decide | 2, _ => decide | 3, _ => decide | 4, _ => decide | i + 5, h => omega))) (so_of_se (se_meth0 (cs := [0]) (ms := [.im]) (f := fun _ => f_Table_text) (so_name 1 rfl (by first | exact .inl rfl | exact .inr (.inl rfl) | exact .inr (.inr rfl) | exact .inr rfl)) (fun c hc => by cases hc with | head => exact ⟨_, G.cl_0, G.me_Table_text, (codR_fn (ok_Table_text G) (hr.mono (by decide)) tk)⟩ | tail _ h => cases h) (fun i h => by match i, h with | 0, _ => decide | 1, _ => decide | 2, _ => decide | 3, _ => decide | 4, _ => decide | i + 5, h => omega))) (nomark _)))))))))
/-! ### Table.scaled -/
theorem sc_Table_scaled : FnScope ["self", "k", "row"] ["self", "k"] (defScope (mth 29 4)) := ⟨rfl, rfl, rfl, by decide +kernel, rfl, by decide +kernel, by decide +kernel⟩
theorem ok_Table_scaled (G : Gt K mg base) : FnR P w K mg base (L2.CX P w) 9 (He.ma K (ca K 0) "scaled") (spF K [.im, .im] f_Table_scaled) := by
  obtain ⟨fd, F⟩ := G.d_Table_scaled
  exact fnr (N := ["self", "k", "row"]) (ps := ["self", "k"]) (ms := [.im, .im]) (m := m_Table_scaled) F sc_Table_scaled rfl (fun _ _ _ _ _ _ us hl => match us, hl with | [_, _], _ => rfl) fun cdv A outer s H E hr tk po =>
    (ss_cons (ss_if (sb_not (sb_val (se_call (calR_fn (ok_is_between G) (hr.mono (by decide)) tk) rfl G.g_is_between G.kp_is_between (sa_cons (so_name 1 rfl (by first | exact .inl rfl | exact .inr (.inl rfl) | exact .inr (.inr rfl) | exact .inr rfl)) (sa_cons (so_of_se se_int) (sa_cons (so_of_se (se_gint rfl G.c_MOST_SCALE)) sa_nil)))))) (ss_one (ss_raiseC 13 rfl tk rfl G.ex_NoNumber G.g_NoNumber rfl)) ss_nil) (ss_one (ss_ret (se_call (calR_fn (ok_table_of G) (hr.mono (by decide)) tk) rfl G.g_table_of G.kp_table_of (sa_cons (so_of_se (se_of_sn (sn_lc (own := [("row", 2)]) rfl sc_Table_scaled.nd (si_val (se_fld 0 G.fl_0_kept (so_name 0 rfl (by first | exact .inl rfl | exact .inr (.inl rfl) | exact .inr (.inr rfl) | exact .inr rfl)))) (blkOk_by rfl) (fun _ _ _ _ _ => (sg_nm 2 sc_Table_scaled.nd rfl (by first | exact .inl rfl | exact .inr (.inl rfl) | exact .inr (.inr rfl) | exact .inr rfl))) (fun _ _ _ _ _ => st_nil) (fun _ _ _ _ _ => (se_op2 ow_add (so_of_se (se_slice (so_name 2 rfl (by first | exact .inl rfl | exact .inr (.inl rfl) | exact .inr (.inr rfl) | exact .inr rfl)) spo_none (spo_some se_int))) (so_of_se (se_tup (sa_cons (so_of_se (se_op2 ow_mul (so_name 1 rfl (by first | exact .inl rfl | exact .inr (.inl rfl) | exact .inr (.inr rfl) | exact .inr rfl)) (so_of_se (se_ix ow_ix (so_name 2 rfl (by first | exact .inl rfl | exact .inr (.inl rfl) | exact .inr (.inr rfl) | exact .inr rfl)) (so_of_se se_int) (fun _ _ => rfl))))) sa_nil)))))))) sa_nil)))))
/-! ### _law_are_right -/
noncomputable def e_x_law_are_right_1 : M D :=
  (mIopA 0 (fun h h2 => mCallF [.im, .im] f_Table___mul [h, h2]) (mNm 0) (mVa (mIopA 0 (fun h h2 => mCallF [.im, .im] f_Table___add [h, h2]) (mNm 1) (mNm 2))))
noncomputable def e_x_law_are_right_2 : M D :=
  (mIopA 0 (fun h h2 => mCallF [.im, .im] f_Table___add [h, h2]) (mVa (mIopA 0 (fun h h2 => mCallF [.im, .im] f_Table___mul [h, h2]) (mNm 0) (mNm 1))) (mVa (mIopA 0 (fun h h2 => mCallF [.im, .im] f_Table___mul [h, h2]) (mNm 0) (mNm 2))))
noncomputable def e_x_law_are_right_3 : M D :=
  (mIopA 0 (fun h h2 => mCallF [.im, .im] f_Table___mul [h, h2]) (mVa (mIopA 0 (fun h h2 => mCallF [.im, .im] f_Table___add [h, h2]) (mNm 1) (mNm 2))) (mNm 0))
noncomputable def e_x_law_are_right_4 : M D :=
  (mIopA 0 (fun h h2 => mCallF [.im, .im] f_Table___add [h, h2]) (mVa (mIopA 0 (fun h h2 => mCallF [.im, .im] f_Table___mul [h, h2]) (mNm 1) (mNm 0))) (mVa (mIopA 0 (fun h h2 => mCallF [.im, .im] f_Table___mul [h, h2]) (mNm 2) (mNm 0))))
noncomputable def i_x_law_are_right_5 : M (List D) :=
  (mSrc rng1 (mCons (mNm 3) (M.ret [])))
noncomputable def b_x_law_are_right_6 : M Fl :=
  (mSet 7 (mIopA 0 (fun h h2 => mCallF [.im, .im] f_Table___add [h, h2]) (mNm 7) (mNm 0)))
noncomputable def m_x_law_are_right : M Fl :=
  (mSeq (mSet 4 (mMkA 0 f_Table___init (mCons (mVa (mTup (mCons (mVa (M.ret (.str "A"))) (mCons (mVa (M.ret (.int 0))) (mCons (mVa (M.ret (.int 0))) (mCons (mVa (M.ret (.int 1))) (M.ret []))))))) (mCons (mVa (mTup (mCons (mVa (M.ret (.str "B"))) (mCons (mVa (M.ret (.int 0))) (mCons (mVa (M.ret (.int 0))) (mCons (mVa (M.ret (.int 1))) (M.ret []))))))) (mCons (mVa (mTup (mCons (mVa (M.ret (.str "C"))) (mCons (mVa (M.ret (.int 0))) (mCons (mVa (M.ret (.int 0))) (mCons (mVa (M.ret (.int 1))) (M.ret []))))))) (M.ret []))))))
    (mSeq ((mOrB ((mIopA 0 (fun h h2 => (mCallF [.im, .im] f_Table___eq [h, h2]).bind dNotB) (mVa ((mCons (mNm 0) (M.ret [])).bind (mCallF [.im] f_x_law_of_rows))) (mNm 0)).bind dBool) (mOrB ((mIopA 0 (fun h h2 => (mCallF [.im, .im] f_Table___eq [h, h2]).bind dNotB) (mVa (mIopA 0 (fun h h2 => mCallF [.im, .im] f_Table___add [h, h2]) (mNm 0) (mNm 1))) (mVa (mIopA 0 (fun h h2 => mCallF [.im, .im] f_Table___add [h, h2]) (mNm 1) (mNm 0)))).bind dBool) ((mIopA 0 (fun h h2 => (mCallF [.im, .im] f_Table___eq [h, h2]).bind dNotB) (mVa (mIopA 0 (fun h h2 => mCallF [.im, .im] f_Table___add [h, h2]) (mVa (mIopA 0 (fun h h2 => mCallF [.im, .im] f_Table___add [h, h2]) (mNm 0) (mNm 1))) (mNm 2))) (mVa (mIopA 0 (fun h h2 => mCallF [.im, .im] f_Table___add [h, h2]) (mNm 0) (mVa (mIopA 0 (fun h h2 => mCallF [.im, .im] f_Table___add [h, h2]) (mNm 1) (mNm 2)))))).bind dBool))).bind fun k => if k = true then ((M.ret (.bl false)).bind fun d => M.ret (.rt d)) else (M.ret .nx))
    (mSeq ((mOrB ((mIopA 0 (fun h h2 => (mCallF [.im, .im] f_Table___eq [h, h2]).bind dNotB) (mVa (mIopA 0 (fun h h2 => mCallF [.im, .im] f_Table___or [h, h2]) (mVa (mIopA 0 (fun h h2 => mCallF [.im, .im] f_Table___or [h, h2]) (mNm 0) (mNm 1))) (mNm 2))) (mVa (mIopA 0 (fun h h2 => mCallF [.im, .im] f_Table___or [h, h2]) (mNm 0) (mVa (mIopA 0 (fun h h2 => mCallF [.im, .im] f_Table___or [h, h2]) (mNm 1) (mNm 2)))))).bind dBool) (mOrB ((mIopA 0 (fun h h2 => (mCallF [.im, .im] f_Table___eq [h, h2]).bind dNotB) (mVa (mIopA 0 (fun h h2 => mCallF [.im, .im] f_Table___or [h, h2]) (mVa (mMk 0 f_Table___init [.tup []])) (mNm 0))) (mNm 0)).bind dBool) ((mIopA 0 (fun h h2 => (mCallF [.im, .im] f_Table___eq [h, h2]).bind dNotB) (mVa (mIopA 0 (fun h h2 => mCallF [.im, .im] f_Table___or [h, h2]) (mNm 0) (mVa (mMk 0 f_Table___init [.tup []])))) (mNm 0)).bind dBool))).bind fun k => if k = true then ((M.ret (.bl false)).bind fun d => M.ret (.rt d)) else (M.ret .nx))
    (mSeq (mSet 5 (mLam 1 m_x_law_told e_x_law_are_right_1))
    (mSeq (mSet 6 (mLam 1 m_x_law_told e_x_law_are_right_2))
    (mSeq (((((mCons (mNm 5) (mCons (mNm 6) (M.ret []))).bind (mCallF [.im, .im] f_x_law_agree)).bind dBool).bind fun c => M.ret (!c)).bind fun k => if k = true then ((M.ret (.bl false)).bind fun d => M.ret (.rt d)) else (M.ret .nx))
    (mSeq (mSet 5 (mLam 1 m_x_law_told e_x_law_are_right_3))
    (mSeq (mSet 6 (mLam 1 m_x_law_told e_x_law_are_right_4))
    (mSeq (((((mCons (mNm 5) (mCons (mNm 6) (M.ret []))).bind (mCallF [.im, .im] f_x_law_agree)).bind dBool).bind fun c => M.ret (!c)).bind fun k => if k = true then ((M.ret (.bl false)).bind fun d => M.ret (.rt d)) else (M.ret .nx))
    (mSeq (mSet 7 (mMk 0 f_Table___init [.tup []]))
    (mSeq (mFor none i_x_law_are_right_5 (tgNm 8) b_x_law_are_right_6)
    ((mAndD (mIopA 0 (fun h h2 => mCallF [.im, .im] f_Table___eq [h, h2]) (mVa (mIopA 0 (fun h h2 => mCallF [.im, .im] f_Table___mul [h, h2]) (mNm 4) (mNm 0))) (mNm 0)) (mAndD (mIopA 0 (fun h h2 => mCallF [.im, .im] f_Table___eq [h, h2]) (mVa (mIopA 0 (fun h h2 => mCallF [.im, .im] f_Table___add [h, h2]) (mNm 0) (mVa (mMk 0 f_Table___init [.tup []])))) (mNm 0)) (mAndD (mIopA 0 (fun h h2 => mCallF [.im, .im] f_Table___eq [h, h2]) (mNm 7) (mVa ((mNm 0).bind (mMth [0] [.im, .im] (fun _ => f_Table_scaled) (mCons (mNm 3) (M.ret [])))))) (mIopA 0 (fun h h2 => mCallF [.im, .im] f_Table___eq [h, h2]) (mVa (mIopA 0 (fun h h2 => mCallF [.im, .im] f_Table___mul [h, h2]) (mVa (mMk 0 f_Table___init [.tup []])) (mNm 0))) (mVa (mMk 0 f_Table___init [.tup []])))))).bind fun d => M.ret (.rt d)))))))))))))
noncomputable def f_x_law_are_right : Fn := runDef [.im, .im, .im, .im] 9 m_x_law_are_right
theorem sc_x_law_are_right : FnScope ["_law_one", "_law_two", "_law_three", "_law_k", "_law_base", "_law_first", "_law_second", "_law_found", "_law_turn"] ["_law_one", "_law_two", "_law_three", "_law_k"] (defScope (top 43)) := ⟨rfl, rfl, rfl, by decide +kernel, rfl, by decide +kernel, by decide +kernel⟩
theorem ok_x_law_are_right (G : Gt K mg base) : FnG P w K mg base (L2.CX P w) 12 (He.ga K "_law_are_right") (spF K [.im, .im, .im, .im] f_x_law_are_right) := by
  obtain ⟨fd, F⟩ := G.d_x_law_are_right
  exact fngL (N := ["_law_one", "_law_two", "_law_three", "_law_k", "_law_base", "_law_first", "_law_second", "_law_found", "_law_turn"]) (ps := ["_law_one", "_law_two", "_law_three", "_law_k"]) (ms := [.im, .im, .im, .im]) (m := m_x_law_are_right) F sc_x_law_are_right rfl (fun _ _ _ _ _ _ us hl => match us, hl with | [_, _, _, _], _ => rfl) fun cdv A outer s H E ec gd hr tk po =>
    (ss_cons (ss_set 4 sc_x_law_are_right.nd rfl (by first | exact .inl rfl | exact .inr (.inl rfl) | exact .inr (.inr rfl) | exact .inr rfl) (se_of_sn (sn_mkA (c := 0) (calR_mk G.mk_0 (ok_Table___init G) (hr.mono (by decide)) tk) rfl G.g_Table G.kp_Table (sa_cons (so_of_se (se_tup (sa_cons (so_of_se se_str) (sa_cons (so_of_se se_int) (sa_cons (so_of_se se_int) (sa_cons (so_of_se se_int) sa_nil)))))) (sa_cons (so_of_se (se_tup (sa_cons (so_of_se se_str) (sa_cons (so_of_se se_int) (sa_cons (so_of_se se_int) (sa_cons (so_of_se se_int) sa_nil)))))) (sa_cons (so_of_se (se_tup (sa_cons (so_of_se se_str) (sa_cons (so_of_se se_int) (sa_cons (so_of_se se_int) (sa_cons (so_of_se se_int) sa_nil)))))) sa_nil)))))) (ss_cons (ss_if (sb_w (sw_or (sb_ofC (sc_ineA (c := 0) (ms := [.im, .im]) (f := f_Table___eq) (so_of_se (se_call (calR_fn (ok_x_law_of_rows G) (hr.mono (by decide)) tk) rfl G.g_x_law_of_rows G.kp_x_law_of_rows (sa_cons (so_name 0 rfl (by first | exact .inl rfl | exact .inr (.inl rfl) | exact .inr (.inr rfl) | exact .inr rfl)) sa_nil))) (so_name 0 rfl (by first | exact .inl rfl | exact .inr (.inl rfl) | exact .inr (.inr rfl) | exact .inr rfl)) hr.units G.me_Table___eq G.ne_0 (ok_Table___eq G) (hr.mono (by decide)) tk) (nomark _)) (sw_or (sb_ofC (sc_ineA (c := 0) (ms := [.im, .im]) (f := f_Table___eq) (so_of_se (se_iopA (c := 0) (ms := [.im, .im]) (f := f_Table___add) (so_name 0 rfl (by first | exact .inl rfl | exact .inr (.inl rfl) | exact .inr (.inr rfl) | exact .inr rfl)) (so_name 1 rfl (by first | exact .inl rfl | exact .inr (.inl rfl) | exact .inr (.inr rfl) | exact .inr rfl)) G.sf_0 G.me_Table___add (by decide) G.nr_0_add (codR_fn (ok_Table___add G) (hr.mono (by decide)) tk))) (so_of_se (se_iopA (c := 0) (ms := [.im, .im]) (f := f_Table___add) (so_name 1 rfl (by first | exact .inl rfl | exact .inr (.inl rfl) | exact .inr (.inr rfl) | exact .inr rfl)) (so_name 0 rfl (by first | exact .inl rfl | exact .inr (.inl rfl) | exact .inr (.inr rfl) | exact .inr rfl)) G.sf_0 G.me_Table___add (by decide) G.nr_0_add (codR_fn (ok_Table___add G) (hr.mono (by decide)) tk))) hr.units G.me_Table___eq G.ne_0 (ok_Table___eq G) (hr.mono (by decide)) tk) (nomark _)) (sw_or1 (sb_ofC (sc_ineA (c := 0) (ms := [.im, .im]) (f := f_Table___eq) (so_of_se (se_iopA (c := 0) (ms := [.im, .im]) (f := f_Table___add) (so_of_se (se_iopA (c := 0) (ms := [.im, .im]) (f := f_Table___add) (so_name 0 rfl (by first | exact .inl rfl | exact .inr (.inl rfl) | exact .inr (.inr rfl) | exact .inr rfl)) (so_name 1 rfl (by first | exact .inl rfl | exact .inr (.inl rfl) | exact .inr (.inr rfl) | exact .inr rfl)) G.sf_0 G.me_Table___add (by decide) G.nr_0_add (codR_fn (ok_Table___add G) (hr.mono (by decide)) tk))) (so_name 2 rfl (by first | exact .inl rfl | exact .inr (.inl rfl) | exact .inr (.inr rfl) | exact .inr rfl)) G.sf_0 G.me_Table___add (by decide) G.nr_0_add (codR_fn (ok_Table___add G) (hr.mono (by decide)) tk))) (so_of_se (se_iopA (c := 0) (ms := [.im, .im]) (f := f_Table___add) (so_name 0 rfl (by first | exact .inl rfl | exact .inr (.inl rfl) | exact .inr (.inr rfl) | exact .inr rfl)) (so_of_se (se_iopA (c := 0) (ms := [.im, .im]) (f := f_Table___add) (so_name 1 rfl (by first | exact .inl rfl | exact .inr (.inl rfl) | exact .inr (.inr rfl) | exact .inr rfl)) (so_name 2 rfl (by first | exact .inl rfl | exact .inr (.inl rfl) | exact .inr (.inr rfl) | exact .inr rfl)) G.sf_0 G.me_Table___add (by decide) G.nr_0_add (codR_fn (ok_Table___add G) (hr.mono (by decide)) tk))) G.sf_0 G.me_Table___add (by decide) G.nr_0_add (codR_fn (ok_Table___add G) (hr.mono (by decide)) tk))) hr.units G.me_Table___eq G.ne_0 (ok_Table___eq G) (hr.mono (by decide)) tk) (nomark _)))))) (ss_one (ss_ret se_bl)) ss_nil) (ss_cons (ss_if (sb_w (sw_or (sb_ofC (sc_ineA (c := 0) (ms := [.im, .im]) (f := f_Table___eq) (so_of_se (se_iopA (c := 0) (ms := [.im, .im]) (f := f_Table___or) (so_of_se (se_iopA (c := 0) (ms := [.im, .im]) (f := f_Table___or) (so_name 0 rfl (by first | exact .inl rfl | exact .inr (.inl rfl) | exact .inr (.inr rfl) | exact .inr rfl)) (so_name 1 rfl (by first | exact .inl rfl | exact .inr (.inl rfl) | exact .inr (.inr rfl) | exact .inr rfl)) G.sf_0 G.me_Table___or (by decide) G.nr_0_or (codR_fn (ok_Table___or G) (hr.mono (by decide)) tk))) (so_name 2 rfl (by first | exact .inl rfl | exact .inr (.inl rfl) | exact .inr (.inr rfl) | exact .inr rfl)) G.sf_0 G.me_Table___or (by decide) G.nr_0_or (codR_fn (ok_Table___or G) (hr.mono (by decide)) tk))) (so_of_se (se_iopA (c := 0) (ms := [.im, .im]) (f := f_Table___or) (so_name 0 rfl (by first | exact .inl rfl | exact .inr (.inl rfl) | exact .inr (.inr rfl) | exact .inr rfl)) (so_of_se (se_iopA (c := 0) (ms := [.im, .im]) (f := f_Table___or) (so_name 1 rfl (by first | exact .inl rfl | exact .inr (.inl rfl) | exact .inr (.inr rfl) | exact .inr rfl)) (so_name 2 rfl (by first | exact .inl rfl | exact .inr (.inl rfl) | exact .inr (.inr rfl) | exact .inr rfl)) G.sf_0 G.me_Table___or (by decide) G.nr_0_or (codR_fn (ok_Table___or G) (hr.mono (by decide)) tk))) G.sf_0 G.me_Table___or (by decide) G.nr_0_or (codR_fn (ok_Table___or G) (hr.mono (by decide)) tk))) hr.units G.me_Table___eq G.ne_0 (ok_Table___eq G) (hr.mono (by decide)) tk) (nomark _)) (sw_or (sb_ofC (sc_ineA (c := 0) (ms := [.im, .im]) (f := f_Table___eq) (so_of_se (se_iopA (c := 0) (ms := [.im, .im]) (f := f_Table___or) (so_of_se (se_of_sn (sn_mkA0 (c := 0) (calR_mk G.mk_0 (ok_Table___init G) (hr.mono (by decide)) tk) rfl G.g_Table G.kp_Table))) (so_name 0 rfl (by first | exact .inl rfl | exact .inr (.inl rfl) | exact .inr (.inr rfl) | exact .inr rfl)) G.sf_0 G.me_Table___or (by decide) G.nr_0_or (codR_fn (ok_Table___or G) (hr.mono (by decide)) tk))) (so_name 0 rfl (by first | exact .inl rfl | exact .inr (.inl rfl) | exact .inr (.inr rfl) | exact .inr rfl)) hr.units G.me_Table___eq G.ne_0 (ok_Table___eq G) (hr.mono (by decide)) tk) (nomark _)) (sw_or1 (sb_ofC (sc_ineA (c := 0) (ms := [.im, .im]) (f := f_Table___eq) (so_of_se (se_iopA (c := 0) (ms := [.im, .im]) (f := f_Table___or) (so_name 0 rfl (by first | exact .inl rfl | exact .inr (.inl rfl) | exact .inr (.inr rfl) | exact .inr rfl)) (so_of_se (se_of_sn (sn_mkA0 (c := 0) (calR_mk G.mk_0 (ok_Table___init G) (hr.mono (by decide)) tk) rfl G.g_Table G.kp_Table))) G.sf_0 G.me_Table___or (by decide) G.nr_0_or (codR_fn (ok_Table___or G) (hr.mono (by decide)) tk))) (so_name 0 rfl (by first | exact .inl rfl | exact .inr (.inl rfl) | exact .inr (.inr rfl) | exact .inr rfl)) hr.units G.me_Table___eq G.ne_0 (ok_Table___eq G) (hr.mono (by decide)) tk) (nomark _)))))) (ss_one (ss_ret se_bl)) ss_nil) (ss_cons (ss_set 5 sc_x_law_are_right.nd rfl (by first | exact .inl rfl | exact .inr (.inl rfl) | exact .inr (.inr rfl) | exact .inr rfl) (se_lam (k := 9) (x := "_law_told") tk rfl G.g_x_law_told G.kp_x_law_told (ok_x_law_told G 10) rfl (by first | exact .inl rfl | exact .inr (.inl rfl) | exact .inr (.inr rfl) | exact .inr rfl) G.tb_x_law_are_right (codO_eq ec) G.ld_x_law_are_right.mem G.ld_x_law_are_right.name (hr.mono (by decide)) (lamS_by rfl) rfl (fun _ _ _ _ _ => rfl) (fun A outer s H E f c' hr tk => (se_iopA (c := 0) (ms := [.im, .im]) (f := f_Table___mul) (so_name 0 rfl (by first | exact .inl rfl | exact .inr (.inl rfl) | exact .inr (.inr rfl) | exact .inr rfl)) (so_of_se (se_iopA (c := 0) (ms := [.im, .im]) (f := f_Table___add) (so_name 1 rfl (by first | exact .inl rfl | exact .inr (.inl rfl) | exact .inr (.inr rfl) | exact .inr rfl)) (so_name 2 rfl (by first | exact .inl rfl | exact .inr (.inl rfl) | exact .inr (.inr rfl) | exact .inr rfl)) G.sf_0 G.me_Table___add (by decide) G.nr_0_add (codR_fn (ok_Table___add G) (hr.mono (by decide)) tk))) G.sf_0 G.me_Table___mul (by decide) G.nr_0_mul (codR_fn (ok_Table___mul G) (hr.mono (by decide)) tk))))) (ss_cons (ss_set 6 sc_x_law_are_right.nd rfl (by first | exact .inl rfl | exact .inr (.inl rfl) | exact .inr (.inr rfl) | exact .inr rfl) (se_lam (k := 9) (x := "_law_told") tk rfl G.g_x_law_told G.kp_x_law_told (ok_x_law_told G 10) rfl (by first | exact .inl rfl | exact .inr (.inl rfl) | exact .inr (.inr rfl) | exact .inr rfl) G.tb_x_law_are_right (codO_eq ec) G.ld_x_law_are_right.mem G.ld_x_law_are_right.name (hr.mono (by decide)) (lamS_by rfl) rfl (fun _ _ _ _ _ => rfl) (fun A outer s H E f c' hr tk => (se_iopA (c := 0) (ms := [.im, .im]) (f := f_Table___add) (so_of_se (se_iopA (c := 0) (ms := [.im, .im]) (f := f_Table___mul) (so_name 0 rfl (by first | exact .inl rfl | exact .inr (.inl rfl) | exact .inr (.inr rfl) | exact .inr rfl)) (so_name 1 rfl (by first | exact .inl rfl | exact .inr (.inl rfl) | exact .inr (.inr rfl) | exact .inr rfl)) G.sf_0 G.me_Table___mul (by decide) G.nr_0_mul (codR_fn (ok_Table___mul G) (hr.mono (by decide)) tk))) (so_of_se (se_iopA (c := 0) (ms := [.im, .im]) (f := f_Table___mul) (so_name 0 rfl (by first | exact .inl rfl | exact .inr (.inl rfl) | exact .inr (.inr rfl) | exact .inr rfl)) (so_name 2 rfl (by first | exact .inl rfl | exact .inr (.inl rfl) | exact .inr (.inr rfl) | exact .inr rfl)) G.sf_0 G.me_Table___mul (by decide) G.nr_0_mul (codR_fn (ok_Table___mul G) (hr.mono (by decide)) tk))) G.sf_0 G.me_Table___add (by decide) G.nr_0_add (codR_fn (ok_Table___add G) (hr.mono (by decide)) tk))))) (ss_cons (ss_if (sb_not (sb_val (se_call (calR_fn (ok_x_law_agree G) (hr.mono (by decide)) tk) rfl G.g_x_law_agree G.kp_x_law_agree (sa_cons (so_name 5 rfl (by first | exact .inl rfl | exact .inr (.inl rfl) | exact .inr (.inr rfl) | exact .inr rfl)) (sa_cons (so_name 6 rfl (by first | exact .inl rfl | exact .inr (.inl rfl) | exact .inr (.inr rfl) | exact .inr rfl)) sa_nil))))) (ss_one (ss_ret se_bl)) ss_nil) (ss_cons (ss_set 5 sc_x_law_are_right.nd rfl (by first | exact .inl rfl | exact .inr (.inl rfl) | exact .inr (.inr rfl) | exact .inr rfl) (se_lam (k := 9) (x := "_law_told") tk rfl G.g_x_law_told G.kp_x_law_told (ok_x_law_told G 10) rfl (by first | exact .inl rfl | exact .inr (.inl rfl) | exact .inr (.inr rfl) | exact .inr rfl) G.tb_x_law_are_right (codO_eq ec) G.ld_x_law_are_right.mem G.ld_x_law_are_right.name (hr.mono (by decide)) (lamS_by rfl) rfl (fun _ _ _ _ _ => rfl) (fun A outer s H E f c' hr tk => (se_iopA (c := 0) (ms := [.im, .im]) (f := f_Table___mul) (so_of_se (se_iopA (c := 0) (ms := [.im, .im]) (f := f_Table___add) (so_name 1 rfl (by first | exact .inl rfl | exact .inr (.inl rfl) | exact .inr (.inr rfl) | exact .inr rfl)) (so_name 2 rfl (by first | exact .inl rfl | exact .inr (.inl rfl) | exact .inr (.inr rfl) | exact .inr rfl)) G.sf_0 G.me_Table___add (by decide) G.nr_0_add (codR_fn (ok_Table___add G) (hr.mono (by decide)) tk))) (so_name 0 rfl (by first | exact .inl rfl | exact .inr (.inl rfl) | exact .inr (.inr rfl) | exact .inr rfl)) G.sf_0 G.me_Table___mul (by decide) G.nr_0_mul (codR_fn (ok_Table___mul G) (hr.mono (by decide)) tk))))) (ss_cons (ss_set 6 sc_x_law_are_right.nd rfl (by first | exact .inl rfl | exact .inr (.inl rfl) | exact .inr (.inr rfl) | exact .inr rfl) (se_lam (k := 9) (x := "_law_told") tk rfl G.g_x_law_told G.kp_x_law_told (ok_x_law_told G 10) rfl (by first | exact .inl rfl | exact .inr (.inl rfl) | exact .inr (.inr rfl) | exact .inr rfl) G.tb_x_law_are_right (codO_eq ec) G.ld_x_law_are_right.mem G.ld_x_law_are_right.name (hr.mono (by decide)) (lamS_by rfl) rfl (fun _ _ _ _ _ => rfl) (fun A outer s H E f c' hr tk => (se_iopA (c := 0) (ms := [.im, .im]) (f := f_Table___add) (so_of_se (se_iopA (c := 0) (ms := [.im, .im]) (f := f_Table___mul) (so_name 1 rfl (by first | exact .inl rfl | exact .inr (.inl rfl) | exact .inr (.inr rfl) | exact .inr rfl)) (so_name 0 rfl (by first | exact .inl rfl | exact .inr (.inl rfl) | exact .inr (.inr rfl) | exact .inr rfl)) G.sf_0 G.me_Table___mul (by decide) G.nr_0_mul (codR_fn (ok_Table___mul G) (hr.mono (by decide)) tk))) (so_of_se (se_iopA (c := 0) (ms := [.im, .im]) (f := f_Table___mul) (so_name 2 rfl (by first | exact .inl rfl | exact .inr (.inl rfl) | exact .inr (.inr rfl) | exact .inr rfl)) (so_name 0 rfl (by first | exact .inl rfl | exact .inr (.inl rfl) | exact .inr (.inr rfl) | exact .inr rfl)) G.sf_0 G.me_Table___mul (by decide) G.nr_0_mul (codR_fn (ok_Table___mul G) (hr.mono (by decide)) tk))) G.sf_0 G.me_Table___add (by decide) G.nr_0_add (codR_fn (ok_Table___add G) (hr.mono (by decide)) tk))))) (ss_cons (ss_if (sb_not (sb_val (se_call (calR_fn (ok_x_law_agree G) (hr.mono (by decide)) tk) rfl G.g_x_law_agree G.kp_x_law_agree (sa_cons (so_name 5 rfl (by first | exact .inl rfl | exact .inr (.inl rfl) | exact .inr (.inr rfl) | exact .inr rfl)) (sa_cons (so_name 6 rfl (by first | exact .inl rfl | exact .inr (.inl rfl) | exact .inr (.inr rfl) | exact .inr rfl)) sa_nil))))) (ss_one (ss_ret se_bl)) ss_nil) (ss_cons (ss_set 7 sc_x_law_are_right.nd rfl (by first | exact .inl rfl | exact .inr (.inl rfl) | exact .inr (.inr rfl) | exact .inr rfl) (se_of_sn (sn_mkA0 (c := 0) (calR_mk G.mk_0 (ok_Table___init G) (hr.mono (by decide)) tk) rfl G.g_Table G.kp_Table))) (ss_cons (ss_for po rfl (si_range1 rfl G.b_range (sa_cons (so_name 3 rfl (by first | exact .inl rfl | exact .inr (.inl rfl) | exact .inr (.inr rfl) | exact .inr rfl)) sa_nil)) (sg_nm 8 sc_x_law_are_right.nd rfl (by first | exact .inl rfl | exact .inr (.inl rfl) | exact .inr (.inr rfl) | exact .inr rfl)) (ss_one (ss_set 7 sc_x_law_are_right.nd rfl (by first | exact .inl rfl | exact .inr (.inl rfl) | exact .inr (.inr rfl) | exact .inr rfl) (se_iopA (c := 0) (ms := [.im, .im]) (f := f_Table___add) (so_name 7 rfl (by first | exact .inl rfl | exact .inr (.inl rfl) | exact .inr (.inr rfl) | exact .inr rfl)) (so_name 0 rfl (by first | exact .inl rfl | exact .inr (.inl rfl) | exact .inr (.inr rfl) | exact .inr rfl)) G.sf_0 G.me_Table___add (by decide) G.nr_0_add (codR_fn (ok_Table___add G) (hr.mono (by decide)) tk))))) (ss_one (ss_ret (se_and (se_icmpA (c := 0) (ms := [.im, .im]) (f := f_Table___eq) (so_of_se (se_iopA (c := 0) (ms := [.im, .im]) (f := f_Table___mul) (so_name 4 rfl (by first | exact .inl rfl | exact .inr (.inl rfl) | exact .inr (.inr rfl) | exact .inr rfl)) (so_name 0 rfl (by first | exact .inl rfl | exact .inr (.inl rfl) | exact .inr (.inr rfl) | exact .inr rfl)) G.sf_0 G.me_Table___mul (by decide) G.nr_0_mul (codR_fn (ok_Table___mul G) (hr.mono (by decide)) tk))) (so_name 0 rfl (by first | exact .inl rfl | exact .inr (.inl rfl) | exact .inr (.inr rfl) | exact .inr rfl)) hr.units0 G.me_Table___eq (codR_fn (ok_Table___eq G) (hr.mono (by decide)) tk) (nomark _)) (se_and (se_icmpA (c := 0) (ms := [.im, .im]) (f := f_Table___eq) (so_of_se (se_iopA (c := 0) (ms := [.im, .im]) (f := f_Table___add) (so_name 0 rfl (by first | exact .inl rfl | exact .inr (.inl rfl) | exact .inr (.inr rfl) | exact .inr rfl)) (so_of_se (se_of_sn (sn_mkA0 (c := 0) (calR_mk G.mk_0 (ok_Table___init G) (hr.mono (by decide)) tk) rfl G.g_Table G.kp_Table))) G.sf_0 G.me_Table___add (by decide) G.nr_0_add (codR_fn (ok_Table___add G) (hr.mono (by decide)) tk))) (so_name 0 rfl (by first | exact .inl rfl | exact .inr (.inl rfl) | exact .inr (.inr rfl) | exact .inr rfl)) hr.units0 G.me_Table___eq (codR_fn (ok_Table___eq G) (hr.mono (by decide)) tk) (nomark _)) (se_and (se_icmpA (c := 0) (ms := [.im, .im]) (f := f_Table___eq) (so_name 7 rfl (by first | exact .inl rfl | exact .inr (.inl rfl) | exact .inr (.inr rfl) | exact .inr rfl)) (so_of_se (se_meth (cs := [0]) (ms := [.im, .im]) (f := fun _ => f_Table_scaled) (so_name 0 rfl (by first | exact .inl rfl | exact .inr (.inl rfl) | exact .inr (.inr rfl) | exact .inr rfl)) (fun c hc => by cases hc with | head => exact ⟨_, G.cl_0, G.me_Table_scaled, (codR_fn (ok_Table_scaled G) (hr.mono (by decide)) tk)⟩ | tail _ h => cases h) (sa_cons (so_name 3 rfl (by first | exact .inl rfl | exact .inr (.inl rfl) | exact .inr (.inr rfl) | exact .inr rfl)) sa_nil) (fun i h => by match i, h with | 0, _ => decide | 1, _ => decide | 2, _ => decide | 3, _ => decide | 4, _ => decide | i + 5, h => omega))) hr.units0 G.me_Table___eq (codR_fn (ok_Table___eq G) (hr.mono (by decide)) tk) (nomark _)) (se_one (se_icmpA (c := 0) (ms := [.im, .im]) (f := f_Table___eq) (so_of_se (se_iopA (c := 0) (ms := [.im, .im]) (f := f_Table___mul) (so_of_se (se_of_sn (sn_mkA0 (c := 0) (calR_mk G.mk_0 (ok_Table___init G) (hr.mono (by decide)) tk) rfl G.g_Table G.kp_Table))) (so_name 0 rfl (by first | exact .inl rfl | exact .inr (.inl rfl) | exact .inr (.inr rfl) | exact .inr rfl)) G.sf_0 G.me_Table___mul (by decide) G.nr_0_mul (codR_fn (ok_Table___mul G) (hr.mono (by decide)) tk))) (so_of_se (se_of_sn (sn_mkA0 (c := 0) (calR_mk G.mk_0 (ok_Table___init G) (hr.mono (by decide)) tk) rfl G.g_Table G.kp_Table))) hr.units0 G.me_Table___eq (codR_fn (ok_Table___eq G) (hr.mono (by decide)) tk) (nomark _)))))))))))))))))))
/-! ### law -/
noncomputable def i_law_1 : M (List D) :=
  (mSrc rng1 (mCons (mVa (M.ret (.int 6))) (M.ret [])))
noncomputable def b_law_2 : M Fl :=
  (mSeq (mPar 4 5 (mCons (mVa ((mCons (mNm 2) (M.ret [])).bind (mCallF [.mu] f_x_law_drawn))) (mCons (mVa ((mCons (mNm 2) (M.ret [])).bind (mCallF [.mu] f_x_law_drawn))) (M.ret []))))
    (mSeq (mSet 6 ((mCons (mNm 2) (M.ret [])).bind (mCallF [.mu] f_x_law_drawn)))
    (((((mCons (mNm 4) (mCons (mNm 5) (mCons (mNm 6) (mCons (mVa (mOp2 dAdd (mVa (M.ret (.int 1))) (mVa ((mCons (mNm 2) (mCons (mVa (M.ret (.int 5))) (M.ret []))).bind (mCallF [.mu, .im] f_x_law_draw))))) (M.ret []))))).bind (mCallF [.im, .im, .im, .im] f_x_law_are_right)).bind dBool).bind fun c => M.ret (!c)).bind fun k => if k = true then ((M.ret (.bl false)).bind fun d => M.ret (.rt d)) else (M.ret .nx))))
noncomputable def i_law_3 : M (List D) :=
  (mSrc rng1 (mCons (mVa (mCall dMax2 (mCons (mVa (M.ret (.int 1))) (mCons (mVa (mCall dMin2 (mCons (mVa (mCall dLen (mCons (mNm 0) (M.ret [])))) (mCons (mVa (M.ret (.int 4))) (M.ret []))))) (M.ret []))))) (M.ret [])))
noncomputable def b_law_4 : M Fl :=
  (mSeq (mSetN 2 ((mCons (mVa ((mCons (mNm 0) (mCons (mNm 1) (M.ret []))).bind (mCallF [.im, .im] f_x_law_cell))) (M.ret [])).bind (mCallN [.im] f_x_law_source)))
    (mFor none i_law_1 (tgNm 3) b_law_2))
noncomputable def m_law : M Fl :=
  (mTry [10, 11, 12, 13, 14, 15, 18] (mSeq (mFor none i_law_3 (tgNm 1) b_law_4)
    ((M.ret (.bl true)).bind fun d => M.ret (.rt d))) [(10, ((M.ret (.bl false)).bind fun d => M.ret (.rt d)))])
noncomputable def f_law : Fn := runDef [.im] 7 m_law
theorem sc_law : FnScope ["_law_script", "_law_k", "_law_source_here", "_law_lap", "_law_one", "_law_two", "_law_three"] ["_law_script"] (defScope (top 44)) := ⟨rfl, rfl, rfl, by decide +kernel, rfl, by decide +kernel, by decide +kernel⟩
theorem ok_law (G : Gt K mg base) : FnG P w K mg base (L2.CX P w) 13 (He.ga K "law") (spF K [.im] f_law) := by
  obtain ⟨fd, F⟩ := G.d_law
  exact fng (N := ["_law_script", "_law_k", "_law_source_here", "_law_lap", "_law_one", "_law_two", "_law_three"]) (ps := ["_law_script"]) (ms := [.im]) (m := m_law) F sc_law rfl (fun _ _ _ _ _ _ us hl => match us, hl with | [_], _ => rfl) fun cdv A outer s H E gd hr tk po =>
    (ss_one (ss_try (cs := [10, 11, 12, 13, 14, 15, 18]) rfl rfl tk (exm_hs G.xm_10 rfl) (fun _ _ _ tk1 po1 => (ss_cons (ss_for po1 rfl (si_range1 rfl G.b_range (sa_cons (so_of_se (se_callB (cw_max2 rfl) rfl G.b_max (by decide +kernel) (sa_cons (so_of_se se_int) (sa_cons (so_of_se (se_callB (cw_min2 rfl) rfl G.b_min (by decide +kernel) (sa_cons (so_of_se (se_callB cw_len rfl G.b_len (by decide +kernel) (sa_cons (so_name 0 rfl (by first | exact .inl rfl | exact .inr (.inl rfl) | exact .inr (.inr rfl) | exact .inr rfl)) sa_nil))) (sa_cons (so_of_se se_int) sa_nil)))) sa_nil)))) sa_nil)) (sg_nm 1 sc_law.nd rfl (by first | exact .inl rfl | exact .inr (.inl rfl) | exact .inr (.inr rfl) | exact .inr rfl)) (ss_cons (ss_setN 2 sc_law.nd rfl (by first | exact .inl rfl | exact .inr (.inl rfl) | exact .inr (.inr rfl) | exact .inr rfl) (sn_call (calR_fn (ok_x_law_source G) (hr.mono (by decide)) tk1) rfl G.g_x_law_source G.kp_x_law_source (sa_cons (so_of_se (se_call (calR_fn (ok_x_law_cell G) (hr.mono (by decide)) tk1) rfl G.g_x_law_cell G.kp_x_law_cell (sa_cons (so_name 0 rfl (by first | exact .inl rfl | exact .inr (.inl rfl) | exact .inr (.inr rfl) | exact .inr rfl)) (sa_cons (so_name 1 rfl (by first | exact .inl rfl | exact .inr (.inl rfl) | exact .inr (.inr rfl) | exact .inr rfl)) sa_nil)))) sa_nil))) (ss_one (ss_for po1 rfl (si_range1 rfl G.b_range (sa_cons (so_of_se se_int) sa_nil)) (sg_nm 3 sc_law.nd rfl (by first | exact .inl rfl | exact .inr (.inl rfl) | exact .inr (.inr rfl) | exact .inr rfl)) (ss_cons (ss_par (i := 4) (j := 5) rfl sc_law.nd rfl rfl (by decide) rfl rfl (sa_cons (so_of_se (se_call (calR_fn (ok_x_law_drawn G) (hr.mono (by decide)) tk1) rfl G.g_x_law_drawn G.kp_x_law_drawn (sa_cons (so_name 2 rfl (by first | exact .inl rfl | exact .inr (.inl rfl) | exact .inr (.inr rfl) | exact .inr rfl)) sa_nil))) (sa_cons (so_of_se (se_call (calR_fn (ok_x_law_drawn G) (hr.mono (by decide)) tk1) rfl G.g_x_law_drawn G.kp_x_law_drawn (sa_cons (so_name 2 rfl (by first | exact .inl rfl | exact .inr (.inl rfl) | exact .inr (.inr rfl) | exact .inr rfl)) sa_nil))) sa_nil)) rfl) (ss_cons (ss_set 6 sc_law.nd rfl (by first | exact .inl rfl | exact .inr (.inl rfl) | exact .inr (.inr rfl) | exact .inr rfl) (se_call (calR_fn (ok_x_law_drawn G) (hr.mono (by decide)) tk1) rfl G.g_x_law_drawn G.kp_x_law_drawn (sa_cons (so_name 2 rfl (by first | exact .inl rfl | exact .inr (.inl rfl) | exact .inr (.inr rfl) | exact .inr rfl)) sa_nil))) (ss_one (ss_if (sb_not (sb_val (se_call (calR_fng (ok_x_law_are_right G) gd (hr.mono (by decide)) tk1) rfl G.g_x_law_are_right G.kp_x_law_are_right (sa_cons (so_name 4 rfl (by first | exact .inl rfl | exact .inr (.inl rfl) | exact .inr (.inr rfl) | exact .inr rfl)) (sa_cons (so_name 5 rfl (by first | exact .inl rfl | exact .inr (.inl rfl) | exact .inr (.inr rfl) | exact .inr rfl)) (sa_cons (so_name 6 rfl (by first | exact .inl rfl | exact .inr (.inl rfl) | exact .inr (.inr rfl) | exact .inr rfl)) (sa_cons (so_of_se (se_op2 ow_add (so_of_se se_int) (so_of_se (se_call (calR_fn (ok_x_law_draw G) (hr.mono (by decide)) tk1) rfl G.g_x_law_draw G.kp_x_law_draw (sa_cons (so_name 2 rfl (by first | exact .inl rfl | exact .inr (.inl rfl) | exact .inr (.inr rfl) | exact .inr rfl)) (sa_cons (so_of_se se_int) sa_nil)))))) sa_nil))))))) (ss_one (ss_ret se_bl)) ss_nil)))))))) (ss_one (ss_ret se_bl)))) (hd_cons (c := 10) rfl G.g_CountError (by decide) (fun _ _ => (ss_one (ss_ret se_bl))) hd_nil)))
end
/-! ### the head -/
def fa : List Tst := [
  tExm [10, 11, 12, 13, 14, 15, 18] [10],
  tFa (.free "len"),
  tFa (.free "min"),
  tFa (.free "max"),
  tFa (.free "range"),
  tFa (.glo "_law_cell"),
  tFa (.keep "_law_cell"),
  tFa (.glo "_law_source"),
  tFa (.keep "_law_source"),
  tKit [0] .str,
  tFa (.free "str"),
  tFa (.free "isinstance"),
  tFa (.exc "NoText"),
  tFa (.glo "NoText"),
  tFa (.str "DIGITS" "0123456789"),
  tFa (.free "all"),
  tFa (.free "int"),
  tFa (.glo "word_number"),
  tFa (.keep "word_number"),
  tFa (.free "tuple"),
  tFa (.glo "row_of_line"),
  tFa (.keep "row_of_line"),
  tFa (.int "MOST_ROWS" 12),
  tKit [0] .tuple,
  tTup "KINDS" ((["A", "B", "C"] : List Str).map He.Dv.str),
  tFa (.glo "KINDS"),
  tFa (.glo "is_kind"),
  tFa (.keep "is_kind"),
  tKit [0] .int,
  tKit [0] .bool,
  tFa (.free "bool"),
  tFa (.glo "is_integer"),
  tFa (.keep "is_integer"),
  tFa (.int "MOST_VALUE" 99),
  tFa (.glo "is_between"),
  tFa (.keep "is_between"),
  tFa (.glo "is_key"),
  tFa (.keep "is_key"),
  tFa (.int "MOST_OFTEN" 10000),
  tFa (.glo "is_row"),
  tFa (.keep "is_row"),
  tFa (.glo "are_rows"),
  tFa (.keep "are_rows"),
  tFa (.exc "NoRows"),
  tFa (.glo "NoRows"),
  tFa (.free "sorted"),
  (fun K => (He.Fa.cls "Table").ok K && (He.Fa.noat "Table" "kept").ok K),
  tFa (.mkr "Table"),
  tFa (.keep "Table"),
  tFa (.cls "Table"),
  tFa (.meth "Table" "text"),
  tFa (.glo "_law_draw"),
  tFa (.keep "_law_draw"),
  tFa (.glo "_law_choose"),
  tFa (.keep "_law_choose"),
  tFa (.glo "_law_lines"),
  tFa (.keep "_law_lines"),
  tFa (.glo "_law_text"),
  tFa (.keep "_law_text"),
  tCMet 0 "read",
  tFa (.glo "Table"),
  tFa (.glo "_law_drawn"),
  tFa (.keep "_law_drawn"),
  tLamD "_law_are_right",
  tKit [0] (.cls 0),
  tFa (.meth "Table" "__eq__"),
  tPropOf 0 "rows",
  tFa (.exc "NoTable"),
  tFa (.glo "NoTable"),
  tFa (.glo "need_table"),
  tFa (.keep "need_table"),
  tFa (.exc "TooMuch"),
  tFa (.glo "TooMuch"),
  tFa (.free "dict"),
  tFa (.glo "added"),
  tFa (.keep "added"),
  tFa (.glo "table_of"),
  tFa (.keep "table_of"),
  tFa (.meth "Table" "__add__"),
  (fun K => PySem.W.selfFirst K (ca K 0)),
  tNoR 0 "add",
  tFa (.glo "_law_of_rows"),
  tFa (.keep "_law_of_rows"),
  tNe 0,
  tFa (.free "list"),
  tFa (.glo "greatest"),
  tFa (.keep "greatest"),
  tFa (.glo "shifted"),
  tFa (.keep "shifted"),
  tFa (.meth "Table" "__or__"),
  tNoR 0 "or",
  tExm [10, 11, 12, 13, 14, 15, 18] [18],
  tFa (.int "SMALL" 9),
  tFa (.glo "paired"),
  tFa (.keep "paired"),
  tFa (.meth "Table" "__mul__"),
  tNoR 0 "mul",
  tFa (.glo "_law_told"),
  tFa (.keep "_law_told"),
  tFa (.glo "_law_agree"),
  tFa (.keep "_law_agree"),
  tFa (.int "MOST_SCALE" 100),
  tFa (.exc "NoNumber"),
  tFa (.glo "NoNumber"),
  tFa (.meth "Table" "scaled"),
  tFa (.glo "_law_are_right"),
  tFa (.keep "_law_are_right"),
  tFa (.glo "CountError"),
  tFa (.glo "law"),
  tTabs lamXs]
def e_x_law_source : He5.DefA := ⟨fun K => (He.ga K "_law_source"), "_law_source", "_law_source", defArgs (top 33), defBody (top 33), defScope (top 33), [], []⟩
def e_x_law_cell : He5.DefA := ⟨fun K => (He.ga K "_law_cell"), "_law_cell", "_law_cell", defArgs (top 32), defBody (top 32), defScope (top 32), [], []⟩
def e_word_number : He5.DefA := ⟨fun K => (He.ga K "word_number"), "word_number", "word_number", defArgs (top 22), defBody (top 22), defScope (top 22), [], []⟩
def e_row_of_line : He5.DefA := ⟨fun K => (He.ga K "row_of_line"), "row_of_line", "row_of_line", defArgs (top 23), defBody (top 23), defScope (top 23), [], []⟩
def e_is_kind : He5.DefA := ⟨fun K => (He.ga K "is_kind"), "is_kind", "is_kind", defArgs (top 18), defBody (top 18), defScope (top 18), [], []⟩
def e_is_integer : He5.DefA := ⟨fun K => (He.ga K "is_integer"), "is_integer", "is_integer", defArgs (top 16), defBody (top 16), defScope (top 16), [], []⟩
def e_is_between : He5.DefA := ⟨fun K => (He.ga K "is_between"), "is_between", "is_between", defArgs (top 17), defBody (top 17), defScope (top 17), [], []⟩
def e_is_key : He5.DefA := ⟨fun K => (He.ga K "is_key"), "is_key", "is_key", defArgs (top 19), defBody (top 19), defScope (top 19), [], []⟩
def e_is_row : He5.DefA := ⟨fun K => (He.ga K "is_row"), "is_row", "is_row", defArgs (top 20), defBody (top 20), defScope (top 20), [], []⟩
def e_are_rows : He5.DefA := ⟨fun K => (He.ga K "are_rows"), "are_rows", "are_rows", defArgs (top 21), defBody (top 21), defScope (top 21), [], []⟩
def e_Table___init : He5.DefA := ⟨fun K => (He.ma K (ca K 0) "__init__"), "__init__", "Table.__init__", defArgs (mth 29 0), defBody (mth 29 0), defScope (mth 29 0), [], []⟩
def e_Table_text : He5.DefA := ⟨fun K => (He.ma K (ca K 0) "text"), "text", "Table.text", defArgs (mth 29 2), defBody (mth 29 2), defScope (mth 29 2), [], []⟩
def e_Table_read : He5.DefA := ⟨fun K => (cma K (ca K 0) "read"), "read", "Table.read", defArgs (mth 29 1), defBody (mth 29 1), defScope (mth 29 1), [], []⟩
def e_x_law_text : He5.DefA := ⟨fun K => (He.ga K "_law_text"), "_law_text", "_law_text", defArgs (top 38), defBody (top 38), defScope (top 38), [], []⟩
def e_x_law_draw : He5.DefA := ⟨fun K => (He.ga K "_law_draw"), "_law_draw", "_law_draw", defArgs (top 34), defBody (top 34), defScope (top 34), [], []⟩
def e_x_law_choose : He5.DefA := ⟨fun K => (He.ga K "_law_choose"), "_law_choose", "_law_choose", defArgs (top 35), defBody (top 35), defScope (top 35), [], []⟩
def e_x_law_lines : He5.DefA := ⟨fun K => (He.ga K "_law_lines"), "_law_lines", "_law_lines", defArgs (top 37), defBody (top 37), defScope (top 37), [], []⟩
def e_x_law_drawn : He5.DefA := ⟨fun K => (He.ga K "_law_drawn"), "_law_drawn", "_law_drawn", defArgs (top 39), defBody (top 39), defScope (top 39), [], []⟩
def e_Table___eq : He5.DefA := ⟨fun K => (He.ma K (ca K 0) "__eq__"), "__eq__", "Table.__eq__", defArgs (mth 29 11), defBody (mth 29 11), defScope (mth 29 11), [], []⟩
def e_Table_rows : He5.DefA := ⟨fun K => (pga K (ca K 0) "rows"), "rows", "Table.rows", defArgs (mth 29 3), defBody (mth 29 3), defScope (mth 29 3), [], []⟩
def e_need_table : He5.DefA := ⟨fun K => (He.ga K "need_table"), "need_table", "need_table", defArgs (top 30), defBody (top 30), defScope (top 30), [], []⟩
def e_table_of : He5.DefA := ⟨fun K => (He.ga K "table_of"), "table_of", "table_of", defArgs (top 28), defBody (top 28), defScope (top 28), [], []⟩
def e_added : He5.DefA := ⟨fun K => (He.ga K "added"), "added", "added", defArgs (top 26), defBody (top 26), defScope (top 26), [], []⟩
def e_Table___add : He5.DefA := ⟨fun K => (He.ma K (ca K 0) "__add__"), "__add__", "Table.__add__", defArgs (mth 29 8), defBody (mth 29 8), defScope (mth 29 8), [], []⟩
def e_x_law_of_rows : He5.DefA := ⟨fun K => (He.ga K "_law_of_rows"), "_law_of_rows", "_law_of_rows", defArgs (top 41), defBody (top 41), defScope (top 41), [], []⟩
def e_shifted : He5.DefA := ⟨fun K => (He.ga K "shifted"), "shifted", "shifted", defArgs (top 24), defBody (top 24), defScope (top 24), [], []⟩
def e_greatest : He5.DefA := ⟨fun K => (He.ga K "greatest"), "greatest", "greatest", defArgs (top 25), defBody (top 25), defScope (top 25), [], []⟩
def e_Table___or : He5.DefA := ⟨fun K => (He.ma K (ca K 0) "__or__"), "__or__", "Table.__or__", defArgs (mth 29 9), defBody (mth 29 9), defScope (mth 29 9), [], []⟩
def e_x_law_told : He5.DefA := ⟨fun K => (He.ga K "_law_told"), "_law_told", "_law_told", defArgs (top 40), defBody (top 40), defScope (top 40), [], []⟩
def e_paired : He5.DefA := ⟨fun K => (He.ga K "paired"), "paired", "paired", defArgs (top 27), defBody (top 27), defScope (top 27), [], []⟩
def e_Table___mul : He5.DefA := ⟨fun K => (He.ma K (ca K 0) "__mul__"), "__mul__", "Table.__mul__", defArgs (mth 29 10), defBody (mth 29 10), defScope (mth 29 10), [], []⟩
def e_x_law_agree : He5.DefA := ⟨fun K => (He.ga K "_law_agree"), "_law_agree", "_law_agree", defArgs (top 42), defBody (top 42), defScope (top 42), [], []⟩
def e_Table_scaled : He5.DefA := ⟨fun K => (He.ma K (ca K 0) "scaled"), "scaled", "Table.scaled", defArgs (mth 29 4), defBody (mth 29 4), defScope (mth 29 4), [], []⟩
def e_x_law_are_right : He5.DefA := ⟨fun K => (He.ga K "_law_are_right"), "_law_are_right", "_law_are_right", defArgs (top 43), defBody (top 43), defScope (top 43), [], []⟩
def e_law : He5.DefA := ⟨fun K => (He.ga K "law"), "law", "law", defArgs (top 44), defBody (top 44), defScope (top 44), [], []⟩
def fn : List He5.DefA := [e_x_law_source, e_x_law_cell, e_word_number, e_row_of_line, e_is_kind, e_is_integer, e_is_between, e_is_key, e_is_row, e_are_rows, e_Table___init, e_Table_text, e_Table_read, e_x_law_text, e_x_law_draw, e_x_law_choose, e_x_law_lines, e_x_law_drawn, e_Table___eq, e_Table_rows, e_need_table, e_table_of, e_added, e_Table___add, e_x_law_of_rows, e_shifted, e_greatest, e_Table___or, e_x_law_told, e_paired, e_Table___mul, e_x_law_agree, e_Table_scaled, e_x_law_are_right, e_law]
theorem gt_of {K : Frag} {h : Heap} {mg : Str → Option Value} (X : K.In h) (Gm : h.Ns mainGlobals mg) (c : SaysP fa fn K) {base : Heap} (B : ∀ x ∈ lamXs, TabB base mg (codC K x) (tabP K x)) : Gt K mg base where
  xm_10 := (c.fact 0 rfl)
  b_len := He.free_ok X Gm (c.fact 1 rfl)
  b_min := He.free_ok X Gm (c.fact 2 rfl)
  b_max := He.free_ok X Gm (c.fact 3 rfl)
  b_range := He.free_ok X Gm (c.fact 4 rfl)
  g_x_law_cell := He.glo_ok X Gm (c.fact 5 rfl)
  kp_x_law_cell := He.keep_ok (c.fact 6 rfl)
  g_x_law_source := He.glo_ok X Gm (c.fact 7 rfl)
  kp_x_law_source := He.keep_ok (c.fact 8 rfl)
  k_str := kit_ok (c.fact 9 rfl)
  b_str := He.free_ok X Gm (c.fact 10 rfl)
  b_isinstance := He.free_ok X Gm (c.fact 11 rfl)
  ex_NoText := (c.fact 12 rfl)
  g_NoText := He.glo_ok X Gm (c.fact 13 rfl)
  c_DIGITS := He.str_ok X Gm (c.fact 14 rfl)
  b_all := He.free_ok X Gm (c.fact 15 rfl)
  b_int := He.free_ok X Gm (c.fact 16 rfl)
  g_word_number := He.glo_ok X Gm (c.fact 17 rfl)
  kp_word_number := He.keep_ok (c.fact 18 rfl)
  b_tuple := He.free_ok X Gm (c.fact 19 rfl)
  g_row_of_line := He.glo_ok X Gm (c.fact 20 rfl)
  kp_row_of_line := He.keep_ok (c.fact 21 rfl)
  c_MOST_ROWS := He.int_ok X Gm (c.fact 22 rfl)
  k_tuple := kit_ok (c.fact 23 rfl)
  t_KINDS := (c.fact 24 rfl)
  g_KINDS := He.glo_ok X Gm (c.fact 25 rfl)
  g_is_kind := He.glo_ok X Gm (c.fact 26 rfl)
  kp_is_kind := He.keep_ok (c.fact 27 rfl)
  k_int := kit_ok (c.fact 28 rfl)
  k_bool := kit_ok (c.fact 29 rfl)
  b_bool := He.free_ok X Gm (c.fact 30 rfl)
  g_is_integer := He.glo_ok X Gm (c.fact 31 rfl)
  kp_is_integer := He.keep_ok (c.fact 32 rfl)
  c_MOST_VALUE := He.int_ok X Gm (c.fact 33 rfl)
  g_is_between := He.glo_ok X Gm (c.fact 34 rfl)
  kp_is_between := He.keep_ok (c.fact 35 rfl)
  g_is_key := He.glo_ok X Gm (c.fact 36 rfl)
  kp_is_key := He.keep_ok (c.fact 37 rfl)
  c_MOST_OFTEN := He.int_ok X Gm (c.fact 38 rfl)
  g_is_row := He.glo_ok X Gm (c.fact 39 rfl)
  kp_is_row := He.keep_ok (c.fact 40 rfl)
  g_are_rows := He.glo_ok X Gm (c.fact 41 rfl)
  kp_are_rows := He.keep_ok (c.fact 42 rfl)
  ex_NoRows := (c.fact 43 rfl)
  g_NoRows := He.glo_ok X Gm (c.fact 44 rfl)
  b_sorted := He.free_ok X Gm (c.fact 45 rfl)
  fl_0_kept := (fun c hc => by cases hc with | head => exact ⟨He.cls_ok (He.ba (c.fact 46 rfl)).1, He.noat_ok (He.ba (c.fact 46 rfl)).2⟩ | tail _ h => cases h)
  mk_0 := He.mkr_ok (c.fact 47 rfl)
  kp_Table := He.keep_ok (c.fact 48 rfl)
  cl_0 := He.cls_ok (c.fact 49 rfl)
  me_Table_text := He.meth_ok (c.fact 50 rfl)
  g_x_law_draw := He.glo_ok X Gm (c.fact 51 rfl)
  kp_x_law_draw := He.keep_ok (c.fact 52 rfl)
  g_x_law_choose := He.glo_ok X Gm (c.fact 53 rfl)
  kp_x_law_choose := He.keep_ok (c.fact 54 rfl)
  g_x_law_lines := He.glo_ok X Gm (c.fact 55 rfl)
  kp_x_law_lines := He.keep_ok (c.fact 56 rfl)
  g_x_law_text := He.glo_ok X Gm (c.fact 57 rfl)
  kp_x_law_text := He.keep_ok (c.fact 58 rfl)
  cm_Table_read := cmet_ok (c.fact 59 rfl)
  g_Table := He.glo_ok X Gm (c.fact 60 rfl)
  g_x_law_drawn := He.glo_ok X Gm (c.fact 61 rfl)
  kp_x_law_drawn := He.keep_ok (c.fact 62 rfl)
  ld_x_law_are_right := lamD_ok (c.fact 63 rfl)
  k_Table := kit_ok (c.fact 64 rfl)
  me_Table___eq := He.meth_ok (c.fact 65 rfl)
  pr_Table_rows := propOf_ok (c.fact 66 rfl)
  ex_NoTable := (c.fact 67 rfl)
  g_NoTable := He.glo_ok X Gm (c.fact 68 rfl)
  g_need_table := He.glo_ok X Gm (c.fact 69 rfl)
  kp_need_table := He.keep_ok (c.fact 70 rfl)
  ex_TooMuch := (c.fact 71 rfl)
  g_TooMuch := He.glo_ok X Gm (c.fact 72 rfl)
  b_dict := He.free_ok X Gm (c.fact 73 rfl)
  g_added := He.glo_ok X Gm (c.fact 74 rfl)
  kp_added := He.keep_ok (c.fact 75 rfl)
  g_table_of := He.glo_ok X Gm (c.fact 76 rfl)
  kp_table_of := He.keep_ok (c.fact 77 rfl)
  me_Table___add := He.meth_ok (c.fact 78 rfl)
  sf_0 := (c.fact 79 rfl)
  nr_0_add := noR_ok (c.fact 80 rfl)
  g_x_law_of_rows := He.glo_ok X Gm (c.fact 81 rfl)
  kp_x_law_of_rows := He.keep_ok (c.fact 82 rfl)
  ne_0 := neK_ok (c.fact 83 rfl)
  b_list := He.free_ok X Gm (c.fact 84 rfl)
  g_greatest := He.glo_ok X Gm (c.fact 85 rfl)
  kp_greatest := He.keep_ok (c.fact 86 rfl)
  g_shifted := He.glo_ok X Gm (c.fact 87 rfl)
  kp_shifted := He.keep_ok (c.fact 88 rfl)
  me_Table___or := He.meth_ok (c.fact 89 rfl)
  nr_0_or := noR_ok (c.fact 90 rfl)
  xm_18 := (c.fact 91 rfl)
  c_SMALL := He.int_ok X Gm (c.fact 92 rfl)
  g_paired := He.glo_ok X Gm (c.fact 93 rfl)
  kp_paired := He.keep_ok (c.fact 94 rfl)
  me_Table___mul := He.meth_ok (c.fact 95 rfl)
  nr_0_mul := noR_ok (c.fact 96 rfl)
  g_x_law_told := He.glo_ok X Gm (c.fact 97 rfl)
  kp_x_law_told := He.keep_ok (c.fact 98 rfl)
  g_x_law_agree := He.glo_ok X Gm (c.fact 99 rfl)
  kp_x_law_agree := He.keep_ok (c.fact 100 rfl)
  c_MOST_SCALE := He.int_ok X Gm (c.fact 101 rfl)
  ex_NoNumber := (c.fact 102 rfl)
  g_NoNumber := He.glo_ok X Gm (c.fact 103 rfl)
  me_Table_scaled := He.meth_ok (c.fact 104 rfl)
  g_x_law_are_right := He.glo_ok X Gm (c.fact 105 rfl)
  kp_x_law_are_right := He.keep_ok (c.fact 106 rfl)
  g_CountError := He.glo_ok X Gm (c.fact 107 rfl)
  g_law := He.glo_ok X Gm (c.fact 108 rfl)
  tabs := (of_decide_eq_true (c.fact 109 rfl))
  d_x_law_source := c.def_ 0 (d := e_x_law_source) rfl
  d_x_law_cell := c.def_ 1 (d := e_x_law_cell) rfl
  d_word_number := c.def_ 2 (d := e_word_number) rfl
  d_row_of_line := c.def_ 3 (d := e_row_of_line) rfl
  d_is_kind := c.def_ 4 (d := e_is_kind) rfl
  d_is_integer := c.def_ 5 (d := e_is_integer) rfl
  d_is_between := c.def_ 6 (d := e_is_between) rfl
  d_is_key := c.def_ 7 (d := e_is_key) rfl
  d_is_row := c.def_ 8 (d := e_is_row) rfl
  d_are_rows := c.def_ 9 (d := e_are_rows) rfl
  d_Table___init := c.def_ 10 (d := e_Table___init) rfl
  d_Table_text := c.def_ 11 (d := e_Table_text) rfl
  d_Table_read := c.def_ 12 (d := e_Table_read) rfl
  d_x_law_text := c.def_ 13 (d := e_x_law_text) rfl
  d_x_law_draw := c.def_ 14 (d := e_x_law_draw) rfl
  d_x_law_choose := c.def_ 15 (d := e_x_law_choose) rfl
  d_x_law_lines := c.def_ 16 (d := e_x_law_lines) rfl
  d_x_law_drawn := c.def_ 17 (d := e_x_law_drawn) rfl
  d_Table___eq := c.def_ 18 (d := e_Table___eq) rfl
  d_Table_rows := c.def_ 19 (d := e_Table_rows) rfl
  d_need_table := c.def_ 20 (d := e_need_table) rfl
  d_table_of := c.def_ 21 (d := e_table_of) rfl
  d_added := c.def_ 22 (d := e_added) rfl
  d_Table___add := c.def_ 23 (d := e_Table___add) rfl
  d_x_law_of_rows := c.def_ 24 (d := e_x_law_of_rows) rfl
  d_shifted := c.def_ 25 (d := e_shifted) rfl
  d_greatest := c.def_ 26 (d := e_greatest) rfl
  d_Table___or := c.def_ 27 (d := e_Table___or) rfl
  d_x_law_told := c.def_ 28 (d := e_x_law_told) rfl
  d_paired := c.def_ 29 (d := e_paired) rfl
  d_Table___mul := c.def_ 30 (d := e_Table___mul) rfl
  d_x_law_agree := c.def_ 31 (d := e_x_law_agree) rfl
  d_Table_scaled := c.def_ 32 (d := e_Table_scaled) rfl
  d_x_law_are_right := c.def_ 33 (d := e_x_law_are_right) rfl
  d_law := c.def_ 34 (d := e_law) rfl
  tb_x_law_are_right := B "_law_are_right" (by simp [lamXs])
theorem pre_of {K : Frag} {h : Heap} {mg : Str → Option Value} (X : K.In h) (Gm : h.Ns mainGlobals mg) (c : SaysP fa fn K) : mg "law" = some (.ref (He.ga K "law")) ∧ (∀ x ∈ lamXs, LamD K x) ∧ tT K = lamXs.map (tabP K) := by
  refine ⟨He.glo_ok X Gm (c.fact 108 rfl), fun x hx => ?_, of_decide_eq_true (c.fact 109 rfl)⟩
  simp only [lamXs, List.mem_cons, List.not_mem_nil, or_false] at hx
  rcases hx with rfl
  · exact lamD_ok (c.fact 63 rfl)
end Cq.K08

set_option Elab.async false
set_option linter.all false
set_option maxRecDepth 100000
set_option maxHeartbeats 0
namespace Cq.K08
open PySem PySem.Spec PyProof.Rows L2 Cq
def loose0 : List PySem.Str := ["CountError", "NoRows", "NoKey", "NoNumber", "NoText", "NoTable", "TooMuch", "KINDS", "MOST_VALUE", "MOST_OFTEN", "MOST_ROWS", "MOST_SCALE", "SMALL", "DIGITS", "is_integer", "is_between", "is_kind", "is_key", "is_row", "are_rows", "word_number", "row_of_line", "shifted", "greatest", "added", "paired", "table_of", "Table", "need_table", "_law_cell"]
def loose1 : List PySem.Str := ["_law_source", "_law_draw", "_law_choose", "_law_is_equal", "_law_lines", "_law_text", "_law_drawn", "_law_told", "_law_of_rows", "_law_agree", "_law_are_right"]
def loose : List PySem.Str := loose0 ++ loose1
abbrev R : PySem.W.OpenRow := PySem.W.OpenLaw.row PySem.Challenge.rw_countalike_k08_whole_tables_put_together
abbrev hk : PySem.W.Hook := hookL 6 lamXs fa fn
def ob (s : PySem.W.SharedT) : He.AlD := obsLG 6 lamXs fa fn (HandSHeadRun.getT s)
theorem ob_eq (s : PySem.W.SharedT) : ob s = hk.obs s.abs := obsLG_eq (HandSHeadRun.getT_eq s)
theorem run (w : World) : HandSHeadRun.RunEq R (PySem.W.view R.prog [44]) hk ob 6000 loose w := by
  intro os
  kernel_rfl
end Cq.K08

set_option Elab.async false
set_option linter.all false
set_option maxRecDepth 100000
set_option maxHeartbeats 1000000
namespace Cq
open PySem PySem.Spec PyProof.Rows L2
/-! ### the meanings run, outermost first -/
/-- a mark beside a term that is left as it is -/
structure Tk {α : Sort _} (f : α) : Type where
def bindO {α β : Type} (o : Option (Res α)) (f : α → M β) (_ : Tk f) : Option (Res β) := match o with
  | some (.ok a g) => f a g
  | some (.ex c g) => some (.ex c g)
  | none => none
theorem bindE {α β : Type} {m : M α} {f : α → M β} {g : Gm} : M.bind m f g = bindO (m g) f ⟨⟩ := by
  unfold M.bind bindO
  cases m g with
  | none => rfl
  | some r => cases r <;> rfl
theorem bindO_ok {α β : Type} {a : α} {g : Gm} {f : α → M β} {u : Tk f} : bindO (some (.ok a g)) f u = f a g := rfl
theorem bindO_ex {α β : Type} {c : Nat} {g : Gm} {f : α → M β} {u : Tk f} : bindO (some (.ex c g)) f u = some (.ex c g) := rfl
theorem bindO_none {α β : Type} {f : α → M β} {u : Tk f} : bindO none f u = none := rfl
def seqO (o : Option (Res Fl)) (n : M Fl) (_ : Tk n) : Option (Res Fl) := match o with
  | some (.ok .nx g) => n g
  | o => o
theorem seqE {m n : M Fl} {g : Gm} : mSeq m n g = seqO (m g) n ⟨⟩ := by
  unfold mSeq seqO
  cases m g with
  | none => rfl
  | some r => cases r with
    | ok f g => cases f <;> rfl
    | ex c g => rfl
theorem seqO_nx {g : Gm} {n : M Fl} {u : Tk n} : seqO (some (.ok .nx g)) n u = n g := rfl
theorem seqO_rt {d : D} {g : Gm} {n : M Fl} {u : Tk n} : seqO (some (.ok (.rt d) g)) n u = some (.ok (.rt d) g) := rfl
theorem seqO_rn {d : D} {g : Gm} {n : M Fl} {u : Tk n} : seqO (some (.ok (.rn d) g)) n u = some (.ok (.rn d) g) := rfl
theorem seqO_bk {g : Gm} {n : M Fl} {u : Tk n} : seqO (some (.ok .bk g)) n u = some (.ok .bk g) := rfl
theorem seqO_ct {g : Gm} {n : M Fl} {u : Tk n} : seqO (some (.ok .ct g)) n u = some (.ok .ct g) := rfl
theorem seqO_ex {c : Nat} {g : Gm} {n : M Fl} {u : Tk n} : seqO (some (.ex c g)) n u = some (.ex c g) := rfl
theorem seqO_none {n : M Fl} {u : Tk n} : seqO none n u = none := rfl
theorem retE {α : Type} {a : α} {g : Gm} : M.ret a g = some (.ok a g) := rfl
theorem failE {α : Type} {g : Gm} : (M.fail : M α) g = none := rfl
/-- a branch: the test first -/
def ifO {α : Type} (b : Bool) (m n : M α) (_ : Tk m) (_ : Tk n) : M α := if b = true then m else n
theorem ifE {α : Type} {b : Bool} {m n : M α} {g : Gm} : (if b = true then m else n) g = ifO b m n ⟨⟩ ⟨⟩ g := rfl
theorem ifO_t {α : Type} {m n : M α} {u : Tk m} {v : Tk n} {g : Gm} : ifO true m n u v g = m g := rfl
theorem ifO_f {α : Type} {m n : M α} {u : Tk m} {v : Tk n} {g : Gm} : ifO false m n u v g = n g := rfl
theorem nmE {i : Nat} {g : Gm} {s : Sl} (h : g[i]? = some s) (n : s ≠ .un) : mNm i g = some (.ok (.nm i) g) := by
  unfold mNm
  rw [h]
  cases s <;> first | rfl | exact absurd rfl n
/-- an operation's answer -/
def ansO (o : Option D) (g : Gm) : Option (Res D) := match o with
  | some z => some (.ok z g)
  | none => none
theorem ansO_some {z : D} {g : Gm} : ansO (some z) g = some (.ok z g) := rfl
theorem ansO_none {g : Gm} : ansO none g = none := rfl
theorem f2E {f : D → D → Option D} {a b : Hd} {g : Gm} : mF2 f a b g = bindO (match a.rd g, b.rd g with | some d, some e => some (Res.ok (d, e) g) | _, _ => none) (fun p g => ansO (f p.1 p.2) g) ⟨⟩ := by
  unfold mF2
  cases a.rd g <;> cases b.rd g <;> rfl
theorem f1E {f : D → Option D} {a : Hd} {g : Gm} : mF1 f a g = bindO (match a.rd g with | some d => some (Res.ok d g) | _ => none) (fun d g => ansO (f d) g) ⟨⟩ := by
  unfold mF1
  cases a.rd g <;> rfl
theorem fsE {f : List D → Option D} {a : List Hd} {g : Gm} : mFs f a g = bindO (match rdAll g a with | some d => some (Res.ok d g) | _ => none) (fun d g => ansO (f d) g) ⟨⟩ := by
  unfold mFs
  cases rdAll g a <;> rfl
theorem atI_l {α : Type} {xs : List α} {i : Int} {j : Nat} (h : i = (j : Int)) (l : j < xs.length) : atI xs i = xs[j]? := by
  subst h
  simp [atI, ixN, l]
theorem dmod {i j : Int} (h : 0 < j) : dMod (.int i) (.int j) = some (.int (i % j)) := if_pos h
theorem ddiv {i j : Int} (h : 0 < j) (h2 : j < 1073741824) : dDiv (.int i) (.int j) = some (.int (i / j)) := if_pos ⟨h, h2⟩
theorem dmulr {i j : Int} (h : j.natAbs < 2 ^ 64) : dMul (.int i) (.int j) = some (.int (i * j)) := if_pos (.inr h)
theorem dmull {i j : Int} (h : i.natAbs < 2 ^ 64) : dMul (.int i) (.int j) = some (.int (i * j)) := if_pos (.inl h)
theorem dadd {i j : Int} : dAdd (.int i) (.int j) = some (.int (i + j)) := rfl
theorem dsub {i j : Int} : dSub (.int i) (.int j) = some (.int (i - j)) := rfl
theorem dgt {i j : Int} {f : Int → Int → Bool} : dI f (.int i) (.int j) = some (.bl (f i j)) := rfl
/-- what follows a test, by the answer -/
def andK (mb : M D) : D → M D
  | .bl true => mb
  | .bl false => M.ret (.bl false)
  | _ => M.fail
theorem andE {ma mb : M D} {g : Gm} : mAndD ma mb g = bindO (ma g) (andK mb) ⟨⟩ := by
  unfold mAndD
  rw [bindE]
  rfl
theorem andK_t {mb : M D} {g : Gm} : andK mb (.bl true) g = mb g := rfl
theorem andK_f {mb : M D} {g : Gm} : andK mb (.bl false) g = some (.ok (.bl false) g) := rfl
def orK (mb : M D) : D → M D
  | .bl false => mb
  | .bl true => M.ret (.bl true)
  | _ => M.fail
theorem orE {ma mb : M D} {g : Gm} : mOrD ma mb g = bindO (ma g) (orK mb) ⟨⟩ := by
  unfold mOrD
  rw [bindE]
  have e : (fun c : D => (match c with | .bl true => M.ret (.bl true) | .bl false => mb | _ => M.fail : M D)) = orK mb := by
    funext c
    cases c with
    | bl b => cases b <;> rfl
    | _ => rfl
  unfold bindO
  cases ma g with
  | none => rfl
  | some r => cases r with
    | ok a g => exact congrFun (congrFun e a) g
    | ex c g => rfl
theorem orK_t {mb : M D} {g : Gm} : orK mb (.bl true) g = some (.ok (.bl true) g) := rfl
theorem orK_f {mb : M D} {g : Gm} : orK mb (.bl false) g = mb g := rfl
def andBK (mb : M Bool) (c : Bool) : M Bool := if c = true then mb else M.ret false
theorem andBE {ma mb : M Bool} {g : Gm} : mAndB ma mb g = bindO (ma g) (andBK mb) ⟨⟩ := by
  unfold mAndB
  rw [bindE]
  rfl
theorem andBK_t {mb : M Bool} {g : Gm} : andBK mb true g = mb g := rfl
theorem andBK_f {mb : M Bool} {g : Gm} : andBK mb false g = some (.ok false g) := rfl
def orBK (mb : M Bool) (c : Bool) : M Bool := if c = true then M.ret true else mb
theorem orBE {ma mb : M Bool} {g : Gm} : mOrB ma mb g = bindO (ma g) (orBK mb) ⟨⟩ := by
  unfold mOrB
  rw [bindE]
  rfl
theorem orBK_t {mb : M Bool} {g : Gm} : orBK mb true g = some (.ok true g) := rfl
theorem orBK_f {mb : M Bool} {g : Gm} : orBK mb false g = mb g := rfl
def chK (f' : D → D → Option D) (mc : M Hd) (b : Hd) : D → M D
  | .bl true => mc.bind fun c => mF2 f' b c
  | .bl false => M.ret (.bl false)
  | _ => M.fail
theorem chE {f f' : D → D → Option D} {ma mb mc : M Hd} {g : Gm} : mChain f f' ma mb mc g = bindO (ma g) (fun a => mb.bind fun b => (mF2 f a b).bind (chK f' mc b)) ⟨⟩ := by
  unfold mChain
  rw [bindE]
  rfl
theorem chK_t {f' : D → D → Option D} {mc : M Hd} {b : Hd} {g : Gm} : chK f' mc b (.bl true) g = bindO (mc g) (fun c => mF2 f' b c) ⟨⟩ := bindE
theorem chK_f {f' : D → D → Option D} {mc : M Hd} {b : Hd} {g : Gm} : chK f' mc b (.bl false) g = some (.ok (.bl false) g) := rfl
/-! ### comprehensions, loops -/
theorem forL_run {T : Tgt} {body : M Fl} (I : List D → Gm → Prop) : ∀ {ds : List D} {g : Gm}, I ds g → (∀ d r g, I (d :: r) g → ∃ g1 g2, T d g = some g1 ∧ body g1 = some (.ok .nx g2) ∧ I r g2) → ∃ g', forL T body ds g = some (.ok .nx g') ∧ I [] g'
  | [], g, hi, _ => ⟨g, rfl, hi⟩
  | d :: r, g, hi, hs => by
    obtain ⟨g1, g2, h1, h2, h3⟩ := hs d r g hi
    obtain ⟨g', k1, k2⟩ := forL_run I h3 hs
    exact ⟨g', by simp only [forL, h1, h2, k1], k2⟩
theorem for_none {it : M (List D)} {T : Tgt} {body : M Fl} {g : Gm} {ds : List D} (hi : it g = some (.ok ds g)) : mFor none it T body g = mBack none g (forL T body ds g) := by
  unfold mFor
  simp only [bindE, hi, bindO_ok, lendOut]
theorem back_none {α : Type} {g : Gm} {o : Option (Res α)} : mBack none g o = o := by
  cases o with
  | none => rfl
  | some r => cases r <;> rfl
theorem for_im {i : Nat} {T : Tgt} {body : M Fl} {g : Gm} {d : D} {ds : List D} (h : g[i]? = some (.im d)) (hd : itD d = some ds) : mFor (some i) (mItN i) T body g = forL T body ds g := by
  have hi : mItN i g = some (.ok ds g) := by simp only [mItN, Hd.rd, h, hd]
  have hl : lendOut (some i) g = g := by simp only [lendOut, h]
  have hb : ∀ o : Option (Res Fl), mBack (some i) g o = o := fun o => by
    cases o with
    | none => rfl
    | some r => cases r <;> simp only [mBack, lendIn, h]
  unfold mFor
  rw [bindE, hi, bindO_ok, hl, hb]
end Cq

set_option Elab.async false
set_option linter.all false
set_option maxRecDepth 100000
set_option maxHeartbeats 1000000
namespace Cq.Sh
open PySem PySem.Spec PyProof.Rows L2 Cq
/-! ### the source of draws -/
structure So where
  a : Int
  b : Int
  c : Int
def so (s : So) : D := .lst [.int s.a, .int s.b, .int s.c]
theorem so_flat (s : So) : (so s).flat = true := rfl
theorem ix0 {a b c : Int} : dIx (.lst [.int a, .int b, .int c]) (.int 0) = some (.int a) := by simp [dIx, atI, ixN]
theorem ix1 {a b c : Int} : dIx (.lst [.int a, .int b, .int c]) (.int 1) = some (.int b) := by simp [dIx, atI, ixN]
theorem ix2 {a b c : Int} : dIx (.lst [.int a, .int b, .int c]) (.int 2) = some (.int c) := by simp [dIx, atI, ixN]
theorem st0 {a b c w : Int} : fSetL (.lst [.int a, .int b, .int c]) [.int 0, .int w] = some (.non, .lst [.int w, .int b, .int c]) := by simp [fSetL, ixN]
theorem st1 {a b c w : Int} : fSetL (.lst [.int a, .int b, .int c]) [.int 1, .int w] = some (.non, .lst [.int a, .int w, .int c]) := by simp [fSetL, ixN]
theorem st2 {a b c w : Int} : fSetL (.lst [.int a, .int b, .int c]) [.int 2, .int w] = some (.non, .lst [.int a, .int b, .int w]) := by simp [fSetL, ixN]
theorem draw1 (s : So) (n : Int) (hn : 0 < n) (h2 : n < 1073741824) : ∃ r s', f_x_law_draw [so s, .int n] = some (.ret (.int r) [so s']) ∧ 0 ≤ r ∧ r < n := by
  obtain ⟨a, b, c⟩ := s
  unfold f_x_law_draw m_x_law_draw so
  by_cases ha : 0 < a
  · simp (config := { decide := false }) only [↓runDef, gOf, slotOf, endMs, ↓seqE, ↓bindE, bindO_ok, bindO_ex, bindO_none, seqO_nx, seqO_rt, seqO_rn, seqO_bk, seqO_ct, seqO_ex, seqO_none, ↓retE, ↓failE, ↓ifE, ↓andE, ↓andK_t, ↓andK_f, ↓orE, ↓orK_t, ↓orK_f, ↓andBE, ↓andBK_t, ↓andBK_f, ↓orBE, ↓orBK_t, ↓orBK_f, ↓chE, ↓chK_t, ↓chK_f, ifO_t, ifO_f, ↓mVa, ↓mFz, ↓mNm, ↓mFrz, ↓mOp2, ↓mOp1, ↓f2E, ↓f1E, ↓fsE, ansO_some, ansO_none, rdAll, Hd.rd, D.flat, ↓mCons, ↓mCall, ↓mTup, ↓mLst, ↓mFrzs, dBool, dadd, dsub, dgt, dMax2, dMin2, ↓mSet, ↓mSetN, ↓mSetIx, mKindN, isKindN, mWr, beq_self_eq_true, Sl.cell, Sl.put, ↓mFrzM, argDs, argD, apartB, putMu, ↓mCallF, ↓mCallN, Hd.isNm, nmu, List.cons_append, List.nil_append, List.length_cons, List.length_nil, List.replicate_succ, List.replicate_zero, List.getElem?_cons_zero, List.getElem?_cons_succ, List.set_cons_zero, List.set_cons_succ, List.any_nil, List.any_cons, Nat.reduceAdd, Nat.reduceSub, Nat.reduceBEq, if_true, if_false, Bool.false_eq_true, ↓reduceIte, Option.bind_some, Option.map_some, Bool.or_self, Bool.false_or, Bool.or_false, Bool.true_or, Bool.or_true, List.contains_nil, List.contains_cons, Bool.and_self, Bool.not_false, Bool.not_true, Bool.true_and, Bool.and_true, Bool.false_and, decide_true, decide_false, ha, hn, h2, ix0, ix1, ix2, st0, st1, st2, dmod hn, ddiv hn h2]
    exact ⟨_, ⟨_, _, _⟩, rfl, Int.emod_nonneg _ (by omega), Int.emod_lt_of_pos _ hn⟩
  · have m1 : ∀ i : Int, dMod (.int i) (.int 2147483647) = some (.int (i % 2147483647)) := fun i => dmod (by decide)
    have m2 : ∀ i : Int, dMod (.int i) (.int 2147483629) = some (.int (i % 2147483629)) := fun i => dmod (by decide)
    have m3 : ∀ i : Int, dMod (.int i) (.int 2147483587) = some (.int (i % 2147483587)) := fun i => dmod (by decide)
    have d1 : ∀ i : Int, dDiv (.int i) (.int 16) = some (.int (i / 16)) := fun i => ddiv (by decide) (by decide)
    have u1 : ∀ i : Int, dMul (.int i) (.int 48271) = some (.int (i * 48271)) := fun i => dmulr (by decide)
    have u2 : ∀ i : Int, dMul (.int 1009) (.int i) = some (.int (1009 * i)) := fun i => dmull (by decide)
    have u3 : ∀ i : Int, dMul (.int 69621) (.int i) = some (.int (69621 * i)) := fun i => dmull (by decide)
    have u4 : ∀ i : Int, dMul (.int 40014) (.int i) = some (.int (40014 * i)) := fun i => dmull (by decide)
    have u5 : ∀ i : Int, dMul (.int (i % 2147483647)) (.int (i % 2147483647)) = some (.int ((i % 2147483647) * (i % 2147483647))) := fun i => dmull (by have := Int.emod_nonneg i (show (2147483647 : Int) ≠ 0 by decide); have := Int.emod_lt_of_pos i (show (0 : Int) < 2147483647 by decide); omega)
    have u6 : ∀ i : Int, dMul (.int (i % 2147483629)) (.int (i % 2147483629)) = some (.int ((i % 2147483629) * (i % 2147483629))) := fun i => dmull (by have := Int.emod_nonneg i (show (2147483629 : Int) ≠ 0 by decide); have := Int.emod_lt_of_pos i (show (0 : Int) < 2147483629 by decide); omega)
    simp (config := { decide := false }) only [↓runDef, gOf, slotOf, endMs, ↓seqE, ↓bindE, bindO_ok, bindO_ex, bindO_none, seqO_nx, seqO_rt, seqO_rn, seqO_bk, seqO_ct, seqO_ex, seqO_none, ↓retE, ↓failE, ↓ifE, ↓andE, ↓andK_t, ↓andK_f, ↓orE, ↓orK_t, ↓orK_f, ↓andBE, ↓andBK_t, ↓andBK_f, ↓orBE, ↓orBK_t, ↓orBK_f, ↓chE, ↓chK_t, ↓chK_f, ifO_t, ifO_f, ↓mVa, ↓mFz, ↓mNm, ↓mFrz, ↓mOp2, ↓mOp1, ↓f2E, ↓f1E, ↓fsE, ansO_some, ansO_none, rdAll, Hd.rd, D.flat, ↓mCons, ↓mCall, ↓mTup, ↓mLst, ↓mFrzs, dBool, dadd, dsub, dgt, dMax2, dMin2, ↓mSet, ↓mSetN, ↓mSetIx, mKindN, isKindN, mWr, beq_self_eq_true, Sl.cell, Sl.put, ↓mFrzM, argDs, argD, apartB, putMu, ↓mCallF, ↓mCallN, Hd.isNm, nmu, List.cons_append, List.nil_append, List.length_cons, List.length_nil, List.replicate_succ, List.replicate_zero, List.getElem?_cons_zero, List.getElem?_cons_succ, List.set_cons_zero, List.set_cons_succ, List.any_nil, List.any_cons, Nat.reduceAdd, Nat.reduceSub, Nat.reduceBEq, if_true, if_false, Bool.false_eq_true, ↓reduceIte, Option.bind_some, Option.map_some, Bool.or_self, Bool.false_or, Bool.or_false, Bool.true_or, Bool.or_true, List.contains_nil, List.contains_cons, Bool.and_self, Bool.not_false, Bool.not_true, Bool.true_and, Bool.and_true, Bool.false_and, decide_true, decide_false, ha, hn, h2, ix0, ix1, ix2, st0, st1, st2, m1, m2, m3, d1, u1, u2, u3, u4, u5, u6, dmod hn]
    exact ⟨_, ⟨_, _, _⟩, rfl, Int.emod_nonneg _ (by omega), Int.emod_lt_of_pos _ hn⟩
/-! ### choosing -/
theorem choose_l {xs : List D} (s : So) (h0 : xs ≠ []) (h1 : xs.length < 1073741824) : ∃ x ∈ xs, ∃ s', f_x_law_choose [so s, .lst xs] = some (.ret x [so s']) := by
  have hp : 0 < xs.length := List.length_pos_iff.mpr h0
  obtain ⟨r, s', e, r0, r1⟩ := draw1 s xs.length (by omega) (by omega)
  have hr : r.toNat < xs.length := by omega
  refine ⟨xs[r.toNat], List.getElem_mem _, s', ?_⟩
  have hx : dIx (.lst xs) (.int r) = some xs[r.toNat] := by
    show atI xs r = _
    rw [atI_l (j := r.toNat) (by omega) hr, List.getElem?_eq_getElem hr]
  unfold f_x_law_choose m_x_law_choose
  simp (config := { decide := false }) only [↓runDef, gOf, slotOf, endMs, ↓seqE, ↓bindE, bindO_ok, bindO_ex, bindO_none, seqO_nx, seqO_rt, seqO_rn, seqO_bk, seqO_ct, seqO_ex, seqO_none, ↓retE, ↓failE, ↓ifE, ↓andE, ↓andK_t, ↓andK_f, ↓orE, ↓orK_t, ↓orK_f, ↓andBE, ↓andBK_t, ↓andBK_f, ↓orBE, ↓orBK_t, ↓orBK_f, ↓chE, ↓chK_t, ↓chK_f, ifO_t, ifO_f, ↓mVa, ↓mFz, ↓mNm, ↓mFrz, ↓mOp2, ↓mOp1, ↓f2E, ↓f1E, ↓fsE, ansO_some, ansO_none, rdAll, Hd.rd, D.flat, ↓mCons, ↓mCall, ↓mTup, ↓mLst, ↓mFrzs, dBool, dadd, dsub, dgt, dMax2, dMin2, ↓mSet, ↓mSetN, ↓mSetIx, mKindN, isKindN, mWr, beq_self_eq_true, Sl.cell, Sl.put, ↓mFrzM, argDs, argD, apartB, putMu, ↓mCallF, ↓mCallN, Hd.isNm, nmu, List.cons_append, List.nil_append, List.length_cons, List.length_nil, List.replicate_succ, List.replicate_zero, List.getElem?_cons_zero, List.getElem?_cons_succ, List.set_cons_zero, List.set_cons_succ, List.any_nil, List.any_cons, Nat.reduceAdd, Nat.reduceSub, Nat.reduceBEq, if_true, if_false, Bool.false_eq_true, ↓reduceIte, Option.bind_some, Option.map_some, Bool.or_self, Bool.false_or, Bool.or_false, Bool.true_or, Bool.or_true, List.contains_nil, List.contains_cons, Bool.and_self, Bool.not_false, Bool.not_true, Bool.true_and, Bool.and_true, Bool.false_and, decide_true, decide_false, dLen, so_flat, e, hx]
theorem cell_ok (ns : List Int) (i : Int) (h : 0 ≤ i) : ∃ v, f_x_law_cell [.scr ns, .int i] = some (.ret (.int v) []) := by
  have hl : dLen [.scr ns] = some (.int ns.length) := rfl
  by_cases c : i < ns.length
  · have hr : i.toNat < ns.length := by omega
    have hx : dIx (.scr ns) (.int i) = some (.int ns[i.toNat]) := by
      show (atI ns i).map D.int = _
      rw [atI_l (j := i.toNat) (by omega) hr, List.getElem?_eq_getElem hr]
      rfl
    refine ⟨ns[i.toNat], ?_⟩
    unfold f_x_law_cell m_x_law_cell
    simp (config := { decide := false }) only [↓runDef, gOf, slotOf, endMs, ↓seqE, ↓bindE, bindO_ok, bindO_ex, bindO_none, seqO_nx, seqO_rt, seqO_rn, seqO_bk, seqO_ct, seqO_ex, seqO_none, ↓retE, ↓failE, ↓ifE, ↓andE, ↓andK_t, ↓andK_f, ↓orE, ↓orK_t, ↓orK_f, ↓andBE, ↓andBK_t, ↓andBK_f, ↓orBE, ↓orBK_t, ↓orBK_f, ↓chE, ↓chK_t, ↓chK_f, ifO_t, ifO_f, ↓mVa, ↓mFz, ↓mNm, ↓mFrz, ↓mOp2, ↓mOp1, ↓f2E, ↓f1E, ↓fsE, ansO_some, ansO_none, rdAll, Hd.rd, D.flat, ↓mCons, ↓mCall, ↓mTup, ↓mLst, ↓mFrzs, dBool, dadd, dsub, dgt, dMax2, dMin2, ↓mSet, ↓mSetN, ↓mSetIx, mKindN, isKindN, mWr, beq_self_eq_true, Sl.cell, Sl.put, ↓mFrzM, argDs, argD, apartB, putMu, ↓mCallF, ↓mCallN, Hd.isNm, nmu, List.cons_append, List.nil_append, List.length_cons, List.length_nil, List.replicate_succ, List.replicate_zero, List.getElem?_cons_zero, List.getElem?_cons_succ, List.set_cons_zero, List.set_cons_succ, List.any_nil, List.any_cons, Nat.reduceAdd, Nat.reduceSub, Nat.reduceBEq, if_true, if_false, Bool.false_eq_true, ↓reduceIte, Option.bind_some, Option.map_some, Bool.or_self, Bool.false_or, Bool.or_false, Bool.true_or, Bool.or_true, List.contains_nil, List.contains_cons, Bool.and_self, Bool.not_false, Bool.not_true, Bool.true_and, Bool.and_true, Bool.false_and, decide_true, decide_false, hl, c, hx]
  · refine ⟨0, ?_⟩
    unfold f_x_law_cell m_x_law_cell
    simp (config := { decide := false }) only [↓runDef, gOf, slotOf, endMs, ↓seqE, ↓bindE, bindO_ok, bindO_ex, bindO_none, seqO_nx, seqO_rt, seqO_rn, seqO_bk, seqO_ct, seqO_ex, seqO_none, ↓retE, ↓failE, ↓ifE, ↓andE, ↓andK_t, ↓andK_f, ↓orE, ↓orK_t, ↓orK_f, ↓andBE, ↓andBK_t, ↓andBK_f, ↓orBE, ↓orBK_t, ↓orBK_f, ↓chE, ↓chK_t, ↓chK_f, ifO_t, ifO_f, ↓mVa, ↓mFz, ↓mNm, ↓mFrz, ↓mOp2, ↓mOp1, ↓f2E, ↓f1E, ↓fsE, ansO_some, ansO_none, rdAll, Hd.rd, D.flat, ↓mCons, ↓mCall, ↓mTup, ↓mLst, ↓mFrzs, dBool, dadd, dsub, dgt, dMax2, dMin2, ↓mSet, ↓mSetN, ↓mSetIx, mKindN, isKindN, mWr, beq_self_eq_true, Sl.cell, Sl.put, ↓mFrzM, argDs, argD, apartB, putMu, ↓mCallF, ↓mCallN, Hd.isNm, nmu, List.cons_append, List.nil_append, List.length_cons, List.length_nil, List.replicate_succ, List.replicate_zero, List.getElem?_cons_zero, List.getElem?_cons_succ, List.set_cons_zero, List.set_cons_succ, List.any_nil, List.any_cons, Nat.reduceAdd, Nat.reduceSub, Nat.reduceBEq, if_true, if_false, Bool.false_eq_true, ↓reduceIte, Option.bind_some, Option.map_some, Bool.or_self, Bool.false_or, Bool.or_false, Bool.true_or, Bool.or_true, List.contains_nil, List.contains_cons, Bool.and_self, Bool.not_false, Bool.not_true, Bool.true_and, Bool.and_true, Bool.false_and, decide_true, decide_false, hl, c]
theorem lit0 : (0 : Nat) ≤ 1000000 := by decide
theorem lit1 : (1 : Nat) ≤ 1000000 := by decide
theorem lit2 : (2 : Nat) ≤ 1000000 := by decide
theorem lit3 : (3 : Nat) ≤ 1000000 := by decide
theorem lit4 : (4 : Nat) ≤ 1000000 := by decide
theorem source_ok (v : Int) : ∃ s, f_x_law_source [.int v] = some (.new (so s) []) := by
  have hp : dPow (.int 10) (.int 18) = some (.int (10 ^ 18)) := rfl
  have hm : dMod (.int v) (.int 2147483629) = some (.int (v % 2147483629)) := dmod (by decide)
  refine ⟨⟨max 0 (v - 10 ^ 18), v % 2147483629 + 1, 0⟩, ?_⟩
  unfold f_x_law_source m_x_law_source so
  simp (config := { decide := false }) only [↓runDef, gOf, slotOf, endMs, ↓seqE, ↓bindE, bindO_ok, bindO_ex, bindO_none, seqO_nx, seqO_rt, seqO_rn, seqO_bk, seqO_ct, seqO_ex, seqO_none, ↓retE, ↓failE, ↓ifE, ↓andE, ↓andK_t, ↓andK_f, ↓orE, ↓orK_t, ↓orK_f, ↓andBE, ↓andBK_t, ↓andBK_f, ↓orBE, ↓orBK_t, ↓orBK_f, ↓chE, ↓chK_t, ↓chK_f, ifO_t, ifO_f, ↓mVa, ↓mFz, ↓mNm, ↓mFrz, ↓mOp2, ↓mOp1, ↓f2E, ↓f1E, ↓fsE, ansO_some, ansO_none, rdAll, Hd.rd, D.flat, ↓mCons, ↓mCall, ↓mTup, ↓mLst, ↓mFrzs, dBool, dadd, dsub, dgt, dMax2, dMin2, ↓mSet, ↓mSetN, ↓mSetIx, mKindN, isKindN, mWr, beq_self_eq_true, Sl.cell, Sl.put, ↓mFrzM, argDs, argD, apartB, putMu, ↓mCallF, ↓mCallN, Hd.isNm, nmu, List.cons_append, List.nil_append, List.length_cons, List.length_nil, List.replicate_succ, List.replicate_zero, List.getElem?_cons_zero, List.getElem?_cons_succ, List.set_cons_zero, List.set_cons_succ, List.any_nil, List.any_cons, Nat.reduceAdd, Nat.reduceSub, Nat.reduceBEq, if_true, if_false, Bool.false_eq_true, ↓reduceIte, Option.bind_some, Option.map_some, Bool.or_self, Bool.false_or, Bool.or_false, Bool.true_or, Bool.or_true, List.contains_nil, List.contains_cons, Bool.and_self, Bool.not_false, Bool.not_true, Bool.true_and, Bool.and_true, Bool.false_and, decide_true, decide_false, hp, hm, lit3]
/-! ### what may be shown, its length and depth -/
mutual
inductive Shw : D → Nat → Nat → Prop
  | non {k : Nat} : Shw .non 25 k
  | bl {b : Bool} {k : Nat} : Shw (.bl b) 25 k
  | int {i : Int} {k : Nat} : i.natAbs < 2 ^ 64 → Shw (.int i) 25 k
  | str {x : Str} {n k : Nat} : (reprText x).length ≤ n → Shw (.str x) n k
  | tup {ds : List D} {n k : Nat} : Shws ds n k → Shw (.tup ds) (n + 3) (k + 1)
  | lst {ds : List D} {n k : Nat} : Shws ds n k → Shw (.lst ds) (n + 3) (k + 1)
inductive Shws : List D → Nat → Nat → Prop
  | nil {k : Nat} : Shws [] 0 k
  | cons {d : D} {ds : List D} {n m k : Nat} : Shw d n k → Shws ds m k → Shws (d :: ds) (n + m + 2) k
end

theorem int_len {i : Int} (h : i.natAbs < 2 ^ 64) : (PyData.shown (.int i)).length ≤ 25 := by
  have l : ∀ n : Nat, n < 2 ^ 64 → (Str.ofString (toString ((n : Nat) : Int))).length ≤ 20 := fun n hn => by
    have e : (Str.ofString (toString ((n : Nat) : Int))).length = (TL.numL n).length := by rw [← TL.tl_num n]; rfl
    rw [e]
    exact TL.numL_len (by decide) (Nat.lt_of_lt_of_le hn (by decide))
  cases i with
  | ofNat n => exact Nat.le_trans (l n (by simpa using h)) (by decide)
  | negSucc n =>
    have e : toString (Int.negSucc n) = "-" ++ toString (((n + 1 : Nat) : Nat) : Int) := rfl
    show (Str.ofString (toString (Int.negSucc n))).length ≤ 25
    rw [e]
    have e2 : (Str.ofString ("-" ++ toString (((n + 1 : Nat) : Nat) : Int))).length = 1 + (Str.ofString (toString (((n + 1 : Nat) : Nat) : Int))).length := by
      have := congrArg List.length (TL.tl_ofString ("-" ++ toString (((n + 1 : Nat) : Nat) : Int)))
      have t2 := congrArg List.length (TL.tl_ofString (toString (((n + 1 : Nat) : Nat) : Int)))
      simp only [List.length_map, String.toList_append, List.length_append] at this t2
      show (TL.tl (Str.ofString ("-" ++ toString (((n + 1 : Nat) : Nat) : Int)))).length = 1 + (TL.tl (Str.ofString (toString (((n + 1 : Nat) : Nat) : Int)))).length
      rw [this, t2]
      rfl
    rw [e2]
    have := l (n + 1) (by simpa using h)
    omega
mutual
theorem Shw.py : ∀ {d : D} {n k : Nat}, Shw d n k → ∃ p, d.py = some p ∧ (p.showable && !p.hasDict) = true ∧ p.shown.length ≤ n ∧ p.depth ≤ k
  | _, _, _, .non => ⟨.none, rfl, rfl, by decide, Nat.zero_le _⟩
  | _, _, _, .bl (b := b) => ⟨.bool b, rfl, rfl, by cases b <;> decide, Nat.zero_le _⟩
  | _, _, _, .int (i := i) h => ⟨.int i, rfl, by
      have := log64 h
      simp [PyData.showable, PyData.hasDict, this], int_len h, Nat.zero_le _⟩
  | _, _, _, .str (x := x) h => ⟨.str x, rfl, by simp [PyData.showable, PyData.hasDict], by simp only [PyData.shown]; exact h, Nat.zero_le _⟩
  | _, _, _, .tup h => by
    obtain ⟨ps, e, a, b, c⟩ := Shws.py h
    refine ⟨.tuple ps, by simp only [D.py, e, Option.map_some], by simp only [PyData.showable, PyData.hasDict]; exact a, ?_, ?_⟩
    · simp only [PyData.shown]
      have := tupleText_len_le (PyData.shownAll ps)
      have := PyData.shownAll_length ps
      omega
    · simp only [PyData.depth]; omega
  | _, _, _, .lst h => by
    obtain ⟨ps, e, a, b, c⟩ := Shws.py h
    refine ⟨.list ps, by simp only [D.py, e, Option.map_some], by simp only [PyData.showable, PyData.hasDict]; exact a, ?_, ?_⟩
    · simp only [PyData.shown]
      have := listText_len_le (PyData.shownAll ps)
      have := PyData.shownAll_length ps
      omega
    · simp only [PyData.depth]; omega
theorem Shws.py : ∀ {ds : List D} {n k : Nat}, Shws ds n k → ∃ ps, pyL ds = some ps ∧ (PyData.showableAll ps && !PyData.hasDictAll ps) = true ∧ ((PyData.shownAll ps).map (·.length)).sum + 2 * ps.length ≤ n ∧ PyData.depthAll ps ≤ k
  | _, _, _, .nil => ⟨[], rfl, rfl, by simp [PyData.shownAll], by simp [PyData.depthAll]⟩
  | _, _, _, .cons h t => by
    obtain ⟨p, e, a, b, c⟩ := Shw.py h
    obtain ⟨ps, e', a', b', c'⟩ := Shws.py t
    refine ⟨p :: ps, by simp only [pyL, e, e'], ?_, ?_, ?_⟩
    · simp only [PyData.showableAll, PyData.hasDictAll, Bool.and_eq_true, Bool.not_eq_true', Bool.or_eq_false_iff] at a a' ⊢
      exact ⟨⟨a.1, a'.1⟩, a.2, a'.2⟩
    · simp only [PyData.shownAll, List.map_cons, List.sum_cons, List.length_cons]; omega
    · simp only [PyData.depthAll]; omega
end
mutual
theorem Shw.mono : ∀ {d : D} {n k m j : Nat}, Shw d n k → n ≤ m → k ≤ j → ∃ m' ≤ m, Shw d m' j
  | _, _, _, _, _, .non, h, _ => ⟨_, h, .non⟩
  | _, _, _, _, _, .bl, h, _ => ⟨_, h, .bl⟩
  | _, _, _, _, _, .int i, h, _ => ⟨_, h, .int i⟩
  | _, _, _, _, _, .str i, h, _ => ⟨_, h, .str i⟩
  | _, _, _, m, j + 1, .tup t, h, hk => by obtain ⟨m', l, t'⟩ := Shws.mono t (Nat.le_refl _) (Nat.le_of_succ_le_succ hk); exact ⟨m' + 3, by omega, .tup t'⟩
  | _, _, _, m, j + 1, .lst t, h, hk => by obtain ⟨m', l, t'⟩ := Shws.mono t (Nat.le_refl _) (Nat.le_of_succ_le_succ hk); exact ⟨m' + 3, by omega, .lst t'⟩
  | _, _, _, _, 0, .tup t, _, hk => absurd hk (Nat.not_succ_le_zero _)
  | _, _, _, _, 0, .lst t, _, hk => absurd hk (Nat.not_succ_le_zero _)
theorem Shws.mono : ∀ {ds : List D} {n k m j : Nat}, Shws ds n k → n ≤ m → k ≤ j → ∃ m' ≤ m, Shws ds m' j
  | _, _, _, _, _, .nil, h, _ => ⟨_, h, .nil⟩
  | _, _, _, _, _, .cons a t, h, hk => by
    obtain ⟨m1, l1, a'⟩ := Shw.mono a (Nat.le_refl _) hk
    obtain ⟨m2, l2, t'⟩ := Shws.mono t (Nat.le_refl _) hk
    exact ⟨_, by omega, .cons a' t'⟩
end
theorem Shws.map {α : Type} {f : α → D} {n k : Nat} : ∀ {xs : List α}, (∀ x ∈ xs, Shw (f x) n k) → Shws (xs.map f) (xs.length * (n + 2)) k
  | [], _ => by simpa using Shws.nil
  | x :: xs, h => by
    have t := Shws.map (xs := xs) fun y hy => h y (List.mem_cons_of_mem _ hy)
    have := Shws.cons (h x List.mem_cons_self) t
    rw [List.map_cons, List.length_cons, Nat.add_mul, Nat.one_mul]
    rw [show xs.length * (n + 2) + (n + 2) = n + xs.length * (n + 2) + 2 by omega]
    exact this
theorem eq_self {x : Str} : dEq (.str x) (.str x) = some (.bl true) := by simp [dEq]
end Cq.Sh

set_option Elab.async false
set_option linter.all false
set_option maxRecDepth 100000
set_option maxHeartbeats 1000000
namespace Cq.Sh
open PySem PySem.Spec PyProof.Rows L2 Cq
/-! ### loops and comprehensions over images -/
theorem lc_map {α : Type} {l : Option Nat} {it : M (List D)} {vs : List Nat} {T : Tgt} {e : M D} {g : Gm} {xs : List α} (enc out : α → D) (hi : it g = some (.ok (xs.map enc) g)) (pl : plainAt (lendOut l g) vs = true) (hl : xs.length ≤ 1000000)
    (hle : lendIn l g (lendOut l g) = some g) (hre : restG (lendOut l g) (wipeG (lendOut l g) vs) vs = lendOut l g)
    (hb : ∀ x ∈ xs, ∃ g1, T (enc x) (wipeG (lendOut l g) vs) = some g1 ∧ e g1 = some (.ok (out x) g1) ∧ wipeG g1 vs = wipeG (lendOut l g) vs) : mLc l it vs T (M.ret true) e g = some (.ok (.lst (xs.map out)) g) := by
  have lc : ∀ (ys : List α) (g' : Gm), (∀ x ∈ ys, x ∈ xs) → wipeG g' vs = wipeG (lendOut l g) vs → ∃ g2, lcL T (M.ret true) e vs (ys.map enc) g' = some (ys.map out, g2) ∧ wipeG g2 vs = wipeG (lendOut l g) vs := by
    intro ys
    induction ys with
    | nil => intro g' _ hw; exact ⟨g', rfl, hw⟩
    | cons y ys ih =>
      intro g' hm hw
      obtain ⟨g1, h1, h2, h3⟩ := hb y (hm y List.mem_cons_self)
      obtain ⟨g2, k1, k2⟩ := ih g1 (fun x hx => hm x (List.mem_cons_of_mem _ hx)) h3
      exact ⟨g2, by simp only [List.map_cons, lcL, hw, h1, M.ret, h2, k1], k2⟩
  obtain ⟨g2, k1, k2⟩ := lc xs (lendOut l g) (fun _ h => h) rfl
  unfold mLc
  simp only [bindE, hi, bindO_ok, pl, if_true, k1, List.length_map, hl, k2, hre, hle]
theorem lc_filter {α : Type} {l : Option Nat} {it : M (List D)} {vs : List Nat} {T : Tgt} {c : M Bool} {e : M D} {g : Gm} {xs : List α} (enc out : α → D) (p : α → Bool) (hi : it g = some (.ok (xs.map enc) g)) (pl : plainAt (lendOut l g) vs = true) (hl : xs.length ≤ 1000000)
    (hle : lendIn l g (lendOut l g) = some g) (hre : restG (lendOut l g) (wipeG (lendOut l g) vs) vs = lendOut l g)
    (hb : ∀ x ∈ xs, ∃ g1, T (enc x) (wipeG (lendOut l g) vs) = some g1 ∧ c g1 = some (.ok (p x) g1) ∧ (p x = true → e g1 = some (.ok (out x) g1)) ∧ wipeG g1 vs = wipeG (lendOut l g) vs) : mLc l it vs T c e g = some (.ok (.lst ((xs.filter p).map out)) g) := by
  have lc : ∀ (ys : List α) (g' : Gm), (∀ x ∈ ys, x ∈ xs) → wipeG g' vs = wipeG (lendOut l g) vs → ∃ g2, lcL T c e vs (ys.map enc) g' = some ((ys.filter p).map out, g2) ∧ wipeG g2 vs = wipeG (lendOut l g) vs := by
    intro ys
    induction ys with
    | nil => intro g' _ hw; exact ⟨g', rfl, hw⟩
    | cons y ys ih =>
      intro g' hm hw
      obtain ⟨g1, h1, hc, h2, h3⟩ := hb y (hm y List.mem_cons_self)
      obtain ⟨g2, k1, k2⟩ := ih g1 (fun x hx => hm x (List.mem_cons_of_mem _ hx)) h3
      refine ⟨g2, ?_, k2⟩
      cases hp : p y with
      | true => simp only [List.map_cons, lcL, hw, h1, hc, hp, h2 hp, k1, List.filter_cons, if_true]
      | false => simp only [List.map_cons, lcL, hw, h1, hc, hp, k1, List.filter_cons, Bool.false_eq_true, if_false]
  obtain ⟨g2, k1, k2⟩ := lc xs (lendOut l g) (fun _ h => h) rfl
  unfold mLc
  simp only [bindE, hi, bindO_ok, pl, if_true, k1, List.length_map, hl, k2, hre, hle]
theorem for_st {it : M (List D)} {T : Tgt} {body : M Fl} {g g1 : Gm} {ds : List D} (hi : it g = some (.ok ds g1)) : mFor none it T body g = forL T body ds g1 := by
  unfold mFor
  simp only [bindE, hi, bindO_ok, lendOut, back_none]
theorem rng_nat {n : Int} (h : -4611686018427387904 ≤ n ∧ n < 4611686018427387904) : rng1 [.int n] = some (rngD 0 n.toNat) := by
  simp only [rng1]
  rw [if_pos (by omega)]
theorem mem_rng {d : D} {lo : Int} {n : Nat} (h : d ∈ rngD lo n) : ∃ i : Nat, i < n ∧ d = .int (lo + (i : Int)) := by
  obtain ⟨i, hi, rfl⟩ := List.mem_map.mp h
  exact ⟨i, List.mem_range.mp hi, rfl⟩
/-! ### values that are looked at -/
/-- the classes whose instances may be looked at -/
abbrev CS : List Nat := [0]
def okI : D → Bool
  | .scr _ => false
  | .glo _ => false
  | .ktp _ => false
  | .lam _ _ _ _ => false
  | .ins c _ => CS.contains c
  | _ => true
theorem isi_ok {T : Ty} {d : D} (h : okI d = true) : dIsi [0] T d = some (.bl (isTy T d)) := by
  cases d <;> simp_all [okI, dIsi]
def isI : D → Bool
  | .int _ => true
  | _ => false
theorem integer_ok {d : D} (h : okI d = true) : f_is_integer [d] = some (.ret (.bl (isI d)) []) := by
  have h1 := isi_ok (T := .int) h
  have h2 := isi_ok (T := .bool) h
  unfold f_is_integer m_is_integer
  cases d <;> simp (config := { decide := false }) only [↓runDef, gOf, slotOf, endMs, ↓seqE, ↓bindE, bindO_ok, bindO_ex, bindO_none, seqO_nx, seqO_rt, seqO_rn, seqO_bk, seqO_ct, seqO_ex, seqO_none, ↓retE, ↓failE, ↓ifE, ↓andE, ↓andK_t, ↓andK_f, ↓orE, ↓orK_t, ↓orK_f, ↓andBE, ↓andBK_t, ↓andBK_f, ↓orBE, ↓orBK_t, ↓orBK_f, ↓chE, ↓chK_t, ↓chK_f, ifO_t, ifO_f, ↓mVa, ↓mFz, ↓mNm, ↓mFrz, ↓mOp2, ↓mOp1, ↓f2E, ↓f1E, ↓fsE, ansO_some, ansO_none, rdAll, Hd.rd, D.flat, ↓mCons, ↓mCall, ↓mTup, ↓mLst, ↓mFrzs, dBool, dadd, dsub, dgt, dMax2, dMin2, ↓mSet, ↓mSetN, ↓mSetIx, mKindN, isKindN, mWr, beq_self_eq_true, Sl.cell, Sl.put, ↓mFrzM, argDs, argD, apartB, putMu, ↓mCallF, ↓mCallN, Hd.isNm, nmu, List.cons_append, List.nil_append, List.length_cons, List.length_nil, List.replicate_succ, List.replicate_zero, List.getElem?_cons_zero, List.getElem?_cons_succ, List.set_cons_zero, List.set_cons_succ, List.any_nil, List.any_cons, Nat.reduceAdd, Nat.reduceSub, Nat.reduceBEq, if_true, if_false, Bool.false_eq_true, ↓reduceIte, Option.bind_some, Option.map_some, Bool.or_self, Bool.false_or, Bool.or_false, Bool.true_or, Bool.or_true, List.contains_nil, List.contains_cons, Bool.and_self, Bool.not_false, Bool.not_true, Bool.true_and, Bool.and_true, Bool.false_and, decide_true, decide_false, mIsi, h1, h2, isTy, isI, mNotD]
def btw (d : D) (lo hi : Int) : Bool := match d with
  | .int i => decide (lo ≤ i) && decide (i ≤ hi)
  | _ => false
theorem between_ok {d : D} {lo hi : Int} (h : okI d = true) : f_is_between [d, .int lo, .int hi] = some (.ret (.bl (btw d lo hi)) []) := by
  have h1 := integer_ok h
  unfold f_is_between m_is_between
  cases d with
  | int i => cases h2 : decide (lo ≤ i) <;> simp (config := { decide := false }) only [↓runDef, gOf, slotOf, endMs, ↓seqE, ↓bindE, bindO_ok, bindO_ex, bindO_none, seqO_nx, seqO_rt, seqO_rn, seqO_bk, seqO_ct, seqO_ex, seqO_none, ↓retE, ↓failE, ↓ifE, ↓andE, ↓andK_t, ↓andK_f, ↓orE, ↓orK_t, ↓orK_f, ↓andBE, ↓andBK_t, ↓andBK_f, ↓orBE, ↓orBK_t, ↓orBK_f, ↓chE, ↓chK_t, ↓chK_f, ifO_t, ifO_f, ↓mVa, ↓mFz, ↓mNm, ↓mFrz, ↓mOp2, ↓mOp1, ↓f2E, ↓f1E, ↓fsE, ansO_some, ansO_none, rdAll, Hd.rd, D.flat, ↓mCons, ↓mCall, ↓mTup, ↓mLst, ↓mFrzs, dBool, dadd, dsub, dgt, dMax2, dMin2, ↓mSet, ↓mSetN, ↓mSetIx, mKindN, isKindN, mWr, beq_self_eq_true, Sl.cell, Sl.put, ↓mFrzM, argDs, argD, apartB, putMu, ↓mCallF, ↓mCallN, Hd.isNm, nmu, List.cons_append, List.nil_append, List.length_cons, List.length_nil, List.replicate_succ, List.replicate_zero, List.getElem?_cons_zero, List.getElem?_cons_succ, List.set_cons_zero, List.set_cons_succ, List.any_nil, List.any_cons, Nat.reduceAdd, Nat.reduceSub, Nat.reduceBEq, if_true, if_false, Bool.false_eq_true, ↓reduceIte, Option.bind_some, Option.map_some, Bool.or_self, Bool.false_or, Bool.or_false, Bool.true_or, Bool.or_true, List.contains_nil, List.contains_cons, Bool.and_self, Bool.not_false, Bool.not_true, Bool.true_and, Bool.and_true, Bool.false_and, decide_true, decide_false, h1, isI, btw, h2]
  | _ => simp (config := { decide := false }) only [↓runDef, gOf, slotOf, endMs, ↓seqE, ↓bindE, bindO_ok, bindO_ex, bindO_none, seqO_nx, seqO_rt, seqO_rn, seqO_bk, seqO_ct, seqO_ex, seqO_none, ↓retE, ↓failE, ↓ifE, ↓andE, ↓andK_t, ↓andK_f, ↓orE, ↓orK_t, ↓orK_f, ↓andBE, ↓andBK_t, ↓andBK_f, ↓orBE, ↓orBK_t, ↓orBK_f, ↓chE, ↓chK_t, ↓chK_f, ifO_t, ifO_f, ↓mVa, ↓mFz, ↓mNm, ↓mFrz, ↓mOp2, ↓mOp1, ↓f2E, ↓f1E, ↓fsE, ansO_some, ansO_none, rdAll, Hd.rd, D.flat, ↓mCons, ↓mCall, ↓mTup, ↓mLst, ↓mFrzs, dBool, dadd, dsub, dgt, dMax2, dMin2, ↓mSet, ↓mSetN, ↓mSetIx, mKindN, isKindN, mWr, beq_self_eq_true, Sl.cell, Sl.put, ↓mFrzM, argDs, argD, apartB, putMu, ↓mCallF, ↓mCallN, Hd.isNm, nmu, List.cons_append, List.nil_append, List.length_cons, List.length_nil, List.replicate_succ, List.replicate_zero, List.getElem?_cons_zero, List.getElem?_cons_succ, List.set_cons_zero, List.set_cons_succ, List.any_nil, List.any_cons, Nat.reduceAdd, Nat.reduceSub, Nat.reduceBEq, if_true, if_false, Bool.false_eq_true, ↓reduceIte, Option.bind_some, Option.map_some, Bool.or_self, Bool.false_or, Bool.or_false, Bool.true_or, Bool.or_true, List.contains_nil, List.contains_cons, Bool.and_self, Bool.not_false, Bool.not_true, Bool.true_and, Bool.and_true, Bool.false_and, decide_true, decide_false, h1, isI, btw]
def kinds : List Str := ["A", "B", "C"]
def isK : D → Bool
  | .str x => decide (x ∈ kinds)
  | _ => false
theorem in_kinds {x : Str} : dIn (.str x) (.tup ((["A", "B", "C"] : List Str).map .str)) = some (.bl (decide (x ∈ kinds))) := by
  have e : ((["A", "B", "C"] : List Str).map D.str).any (fun z => eqF z (.str x)) = decide (x ∈ kinds) := by
    simp only [List.map_cons, List.map_nil, List.any_cons, List.any_nil, eqF, Bool.or_false, kinds]
    rw [Bool.eq_iff_iff]
    simp only [Bool.or_eq_true, decide_eq_true_eq, List.mem_cons, List.not_mem_nil, or_false]
    constructor
    · rintro (h | h | h)
      · exact .inl h.symm
      · exact .inr (.inl h.symm)
      · exact .inr (.inr h.symm)
    · rintro (h | h | h)
      · exact .inl h.symm
      · exact .inr (.inl h.symm)
      · exact .inr (.inr h.symm)
  simp only [dIn, ← e]
  rfl
theorem kind_ok {d : D} (h : okI d = true) : f_is_kind [d] = some (.ret (.bl (isK d)) []) := by
  have h1 := isi_ok (T := .str) h
  unfold f_is_kind m_is_kind
  cases d with
  | str x => simp (config := { decide := false }) only [↓runDef, gOf, slotOf, endMs, ↓seqE, ↓bindE, bindO_ok, bindO_ex, bindO_none, seqO_nx, seqO_rt, seqO_rn, seqO_bk, seqO_ct, seqO_ex, seqO_none, ↓retE, ↓failE, ↓ifE, ↓andE, ↓andK_t, ↓andK_f, ↓orE, ↓orK_t, ↓orK_f, ↓andBE, ↓andBK_t, ↓andBK_f, ↓orBE, ↓orBK_t, ↓orBK_f, ↓chE, ↓chK_t, ↓chK_f, ifO_t, ifO_f, ↓mVa, ↓mFz, ↓mNm, ↓mFrz, ↓mOp2, ↓mOp1, ↓f2E, ↓f1E, ↓fsE, ansO_some, ansO_none, rdAll, Hd.rd, D.flat, ↓mCons, ↓mCall, ↓mTup, ↓mLst, ↓mFrzs, dBool, dadd, dsub, dgt, dMax2, dMin2, ↓mSet, ↓mSetN, ↓mSetIx, mKindN, isKindN, mWr, beq_self_eq_true, Sl.cell, Sl.put, ↓mFrzM, argDs, argD, apartB, putMu, ↓mCallF, ↓mCallN, Hd.isNm, nmu, List.cons_append, List.nil_append, List.length_cons, List.length_nil, List.replicate_succ, List.replicate_zero, List.getElem?_cons_zero, List.getElem?_cons_succ, List.set_cons_zero, List.set_cons_succ, List.any_nil, List.any_cons, Nat.reduceAdd, Nat.reduceSub, Nat.reduceBEq, if_true, if_false, Bool.false_eq_true, ↓reduceIte, Option.bind_some, Option.map_some, Bool.or_self, Bool.false_or, Bool.or_false, Bool.true_or, Bool.or_true, List.contains_nil, List.contains_cons, Bool.and_self, Bool.not_false, Bool.not_true, Bool.true_and, Bool.and_true, Bool.false_and, decide_true, decide_false, mIsi, h1, isTy, in_kinds, isK]
  | _ => simp (config := { decide := false }) only [↓runDef, gOf, slotOf, endMs, ↓seqE, ↓bindE, bindO_ok, bindO_ex, bindO_none, seqO_nx, seqO_rt, seqO_rn, seqO_bk, seqO_ct, seqO_ex, seqO_none, ↓retE, ↓failE, ↓ifE, ↓andE, ↓andK_t, ↓andK_f, ↓orE, ↓orK_t, ↓orK_f, ↓andBE, ↓andBK_t, ↓andBK_f, ↓orBE, ↓orBK_t, ↓orBK_f, ↓chE, ↓chK_t, ↓chK_f, ifO_t, ifO_f, ↓mVa, ↓mFz, ↓mNm, ↓mFrz, ↓mOp2, ↓mOp1, ↓f2E, ↓f1E, ↓fsE, ansO_some, ansO_none, rdAll, Hd.rd, D.flat, ↓mCons, ↓mCall, ↓mTup, ↓mLst, ↓mFrzs, dBool, dadd, dsub, dgt, dMax2, dMin2, ↓mSet, ↓mSetN, ↓mSetIx, mKindN, isKindN, mWr, beq_self_eq_true, Sl.cell, Sl.put, ↓mFrzM, argDs, argD, apartB, putMu, ↓mCallF, ↓mCallN, Hd.isNm, nmu, List.cons_append, List.nil_append, List.length_cons, List.length_nil, List.replicate_succ, List.replicate_zero, List.getElem?_cons_zero, List.getElem?_cons_succ, List.set_cons_zero, List.set_cons_succ, List.any_nil, List.any_cons, Nat.reduceAdd, Nat.reduceSub, Nat.reduceBEq, if_true, if_false, Bool.false_eq_true, ↓reduceIte, Option.bind_some, Option.map_some, Bool.or_self, Bool.false_or, Bool.or_false, Bool.true_or, Bool.or_true, List.contains_nil, List.contains_cons, Bool.and_self, Bool.not_false, Bool.not_true, Bool.true_and, Bool.and_true, Bool.false_and, decide_true, decide_false, mIsi, h1, isTy, isK]
/-! ### keys and rows, of any value -/
theorem tix {ds : List D} {i : Int} {d : D} {j : Nat} (hi : i = (j : Int)) (h : ds[j]? = some d) : dIx (.tup ds) (.int i) = some d := by
  have l : j < ds.length := (List.getElem?_eq_some_iff.mp h).1
  show atI ds i = _
  rw [atI_l hi l, h]
def isKey : D → Bool
  | .tup [a, b, c] => isK a && btw b 0 99 && btw c 0 99
  | _ => false
def okT : D → Bool
  | .tup ds => ds.all okI
  | d => okI d
theorem okT_I {d : D} (h : okT d = true) : okI d = true := by cases d <;> first | exact h | rfl
theorem dlen_t {ds : List D} : dLen [.tup ds] = some (.int ds.length) := rfl
theorem dne_int {i j : Int} : dNe (.int i) (.int j) = some (.bl (decide (i ≠ j))) := by
  have s : ∀ k : Int, SeqAt.shaped (.int k) = true := fun k => by simp [SeqAt.shaped, PyData.canLay0, PyData.depth]
  simp [dNe, dNeP, D.py, s, PyData.eqv]
  rw [Bool.eq_iff_iff]; simp
theorem deq_int {i j : Int} : dEq (.int i) (.int j) = some (.bl (decide (i = j))) := by
  have s : ∀ k : Int, SeqAt.shaped (.int k) = true := fun k => by simp [SeqAt.shaped, PyData.canLay0, PyData.depth]
  simp [dEq, dEqP, D.py, s, PyData.eqv]
  rw [Bool.eq_iff_iff]; simp
theorem len3 {a b c : D} : dLen [.tup [a, b, c]] = some (.int 3) := rfl
theorem len4 {a b c d : D} : dLen [.tup [a, b, c, d]] = some (.int 4) := rfl
theorem ne33 : dNe (.int 3) (.int 3) = some (.bl false) := rfl
theorem ne44 : dNe (.int 4) (.int 4) = some (.bl false) := rfl
theorem key_ok {d : D} (h : okT d = true) : f_is_key [d] = some (.ret (.bl (isKey d)) []) := by
  unfold f_is_key m_is_key
  cases d with
  | tup ds =>
    have h0 : dIsi [0] .tuple (.tup ds) = some (.bl true) := rfl
    by_cases l : ds.length = 3
    · match ds, l with
      | [a, b, c], _ =>
        simp only [okT, List.all_cons, List.all_nil, Bool.and_true, Bool.and_eq_true] at h
        have e0 : dIx (.tup [a, b, c]) (.int 0) = some a := tix (j := 0) rfl rfl
        have e1 : dIx (.tup [a, b, c]) (.int 1) = some b := tix (j := 1) rfl rfl
        have e2 : dIx (.tup [a, b, c]) (.int 2) = some c := tix (j := 2) rfl rfl
        cases ka : isK a with
        | false => simp (config := { decide := false }) only [↓runDef, gOf, slotOf, endMs, ↓seqE, ↓bindE, bindO_ok, bindO_ex, bindO_none, seqO_nx, seqO_rt, seqO_rn, seqO_bk, seqO_ct, seqO_ex, seqO_none, ↓retE, ↓failE, ↓ifE, ↓andE, ↓andK_t, ↓andK_f, ↓orE, ↓orK_t, ↓orK_f, ↓andBE, ↓andBK_t, ↓andBK_f, ↓orBE, ↓orBK_t, ↓orBK_f, ↓chE, ↓chK_t, ↓chK_f, ifO_t, ifO_f, ↓mVa, ↓mFz, ↓mNm, ↓mFrz, ↓mOp2, ↓mOp1, ↓f2E, ↓f1E, ↓fsE, ansO_some, ansO_none, rdAll, Hd.rd, D.flat, ↓mCons, ↓mCall, ↓mTup, ↓mLst, ↓mFrzs, dBool, dadd, dsub, dgt, dMax2, dMin2, ↓mSet, ↓mSetN, ↓mSetIx, mKindN, isKindN, mWr, beq_self_eq_true, Sl.cell, Sl.put, ↓mFrzM, argDs, argD, apartB, putMu, ↓mCallF, ↓mCallN, Hd.isNm, nmu, List.cons_append, List.nil_append, List.length_cons, List.length_nil, List.replicate_succ, List.replicate_zero, List.getElem?_cons_zero, List.getElem?_cons_succ, List.set_cons_zero, List.set_cons_succ, List.any_nil, List.any_cons, Nat.reduceAdd, Nat.reduceSub, Nat.reduceBEq, if_true, if_false, Bool.false_eq_true, ↓reduceIte, Option.bind_some, Option.map_some, Bool.or_self, Bool.false_or, Bool.or_false, Bool.true_or, Bool.or_true, List.contains_nil, List.contains_cons, Bool.and_self, Bool.not_false, Bool.not_true, Bool.true_and, Bool.and_true, Bool.false_and, decide_true, decide_false, mIsi, h0, len3, ne33, e0, kind_ok h.1, ka, isKey]
        | true => cases kb : btw b 0 99 <;> simp (config := { decide := false }) only [↓runDef, gOf, slotOf, endMs, ↓seqE, ↓bindE, bindO_ok, bindO_ex, bindO_none, seqO_nx, seqO_rt, seqO_rn, seqO_bk, seqO_ct, seqO_ex, seqO_none, ↓retE, ↓failE, ↓ifE, ↓andE, ↓andK_t, ↓andK_f, ↓orE, ↓orK_t, ↓orK_f, ↓andBE, ↓andBK_t, ↓andBK_f, ↓orBE, ↓orBK_t, ↓orBK_f, ↓chE, ↓chK_t, ↓chK_f, ifO_t, ifO_f, ↓mVa, ↓mFz, ↓mNm, ↓mFrz, ↓mOp2, ↓mOp1, ↓f2E, ↓f1E, ↓fsE, ansO_some, ansO_none, rdAll, Hd.rd, D.flat, ↓mCons, ↓mCall, ↓mTup, ↓mLst, ↓mFrzs, dBool, dadd, dsub, dgt, dMax2, dMin2, ↓mSet, ↓mSetN, ↓mSetIx, mKindN, isKindN, mWr, beq_self_eq_true, Sl.cell, Sl.put, ↓mFrzM, argDs, argD, apartB, putMu, ↓mCallF, ↓mCallN, Hd.isNm, nmu, List.cons_append, List.nil_append, List.length_cons, List.length_nil, List.replicate_succ, List.replicate_zero, List.getElem?_cons_zero, List.getElem?_cons_succ, List.set_cons_zero, List.set_cons_succ, List.any_nil, List.any_cons, Nat.reduceAdd, Nat.reduceSub, Nat.reduceBEq, if_true, if_false, Bool.false_eq_true, ↓reduceIte, Option.bind_some, Option.map_some, Bool.or_self, Bool.false_or, Bool.or_false, Bool.true_or, Bool.or_true, List.contains_nil, List.contains_cons, Bool.and_self, Bool.not_false, Bool.not_true, Bool.true_and, Bool.and_true, Bool.false_and, decide_true, decide_false, mIsi, h0, len3, ne33, e0, e1, e2, kind_ok h.1, between_ok h.2.1, between_ok h.2.2, ka, kb, isKey]
    · have n : dNe (.int (ds.length : Nat)) (.int 3) = some (.bl true) := by rw [dne_int]; simp; omega
      have z : isKey (.tup ds) = false := by
        match ds, l with
        | [], _ => rfl
        | [_], _ => rfl
        | [_, _], _ => rfl
        | [_, _, _], l => exact absurd rfl l
        | _ :: _ :: _ :: _ :: _, _ => rfl
      simp (config := { decide := false }) only [↓runDef, gOf, slotOf, endMs, ↓seqE, ↓bindE, bindO_ok, bindO_ex, bindO_none, seqO_nx, seqO_rt, seqO_rn, seqO_bk, seqO_ct, seqO_ex, seqO_none, ↓retE, ↓failE, ↓ifE, ↓andE, ↓andK_t, ↓andK_f, ↓orE, ↓orK_t, ↓orK_f, ↓andBE, ↓andBK_t, ↓andBK_f, ↓orBE, ↓orBK_t, ↓orBK_f, ↓chE, ↓chK_t, ↓chK_f, ifO_t, ifO_f, ↓mVa, ↓mFz, ↓mNm, ↓mFrz, ↓mOp2, ↓mOp1, ↓f2E, ↓f1E, ↓fsE, ansO_some, ansO_none, rdAll, Hd.rd, D.flat, ↓mCons, ↓mCall, ↓mTup, ↓mLst, ↓mFrzs, dBool, dadd, dsub, dgt, dMax2, dMin2, ↓mSet, ↓mSetN, ↓mSetIx, mKindN, isKindN, mWr, beq_self_eq_true, Sl.cell, Sl.put, ↓mFrzM, argDs, argD, apartB, putMu, ↓mCallF, ↓mCallN, Hd.isNm, nmu, List.cons_append, List.nil_append, List.length_cons, List.length_nil, List.replicate_succ, List.replicate_zero, List.getElem?_cons_zero, List.getElem?_cons_succ, List.set_cons_zero, List.set_cons_succ, List.any_nil, List.any_cons, Nat.reduceAdd, Nat.reduceSub, Nat.reduceBEq, if_true, if_false, Bool.false_eq_true, ↓reduceIte, Option.bind_some, Option.map_some, Bool.or_self, Bool.false_or, Bool.or_false, Bool.true_or, Bool.or_true, List.contains_nil, List.contains_cons, Bool.and_self, Bool.not_false, Bool.not_true, Bool.true_and, Bool.and_true, Bool.false_and, decide_true, decide_false, mIsi, h0, dlen_t, n, z]
  | _ =>
    have h1 := isi_ok (T := .tuple) (okT_I h)
    simp (config := { decide := false }) only [↓runDef, gOf, slotOf, endMs, ↓seqE, ↓bindE, bindO_ok, bindO_ex, bindO_none, seqO_nx, seqO_rt, seqO_rn, seqO_bk, seqO_ct, seqO_ex, seqO_none, ↓retE, ↓failE, ↓ifE, ↓andE, ↓andK_t, ↓andK_f, ↓orE, ↓orK_t, ↓orK_f, ↓andBE, ↓andBK_t, ↓andBK_f, ↓orBE, ↓orBK_t, ↓orBK_f, ↓chE, ↓chK_t, ↓chK_f, ifO_t, ifO_f, ↓mVa, ↓mFz, ↓mNm, ↓mFrz, ↓mOp2, ↓mOp1, ↓f2E, ↓f1E, ↓fsE, ansO_some, ansO_none, rdAll, Hd.rd, D.flat, ↓mCons, ↓mCall, ↓mTup, ↓mLst, ↓mFrzs, dBool, dadd, dsub, dgt, dMax2, dMin2, ↓mSet, ↓mSetN, ↓mSetIx, mKindN, isKindN, mWr, beq_self_eq_true, Sl.cell, Sl.put, ↓mFrzM, argDs, argD, apartB, putMu, ↓mCallF, ↓mCallN, Hd.isNm, nmu, List.cons_append, List.nil_append, List.length_cons, List.length_nil, List.replicate_succ, List.replicate_zero, List.getElem?_cons_zero, List.getElem?_cons_succ, List.set_cons_zero, List.set_cons_succ, List.any_nil, List.any_cons, Nat.reduceAdd, Nat.reduceSub, Nat.reduceBEq, if_true, if_false, Bool.false_eq_true, ↓reduceIte, Option.bind_some, Option.map_some, Bool.or_self, Bool.false_or, Bool.or_false, Bool.true_or, Bool.or_true, List.contains_nil, List.contains_cons, Bool.and_self, Bool.not_false, Bool.not_true, Bool.true_and, Bool.and_true, Bool.false_and, decide_true, decide_false, mIsi, h1, isTy, isKey]
def isRow : D → Bool
  | .tup [a, b, c, d] => isK a && btw b 0 99 && btw c 0 99 && btw d 1 10000
  | _ => false
theorem cut3 {ds : List D} : dSl (.tup ds) none (some 3) = some (.tup (ds.take 3)) := by
  have z : HT.sIx ds.length 0 none = 0 := rfl
  have e : ds.take (HT.sIx ds.length ds.length (some 3) - 0) = ds.take 3 := by
    have : HT.sIx ds.length ds.length (some 3) = min 3 ds.length := by
      unfold HT.sIx
      simp
      try omega
    rw [this, Nat.sub_zero]
    rcases Nat.le_total 3 ds.length with h | h
    · rw [Nat.min_eq_left h]
    · rw [Nat.min_eq_right h, List.take_of_length_le (Nat.le_refl _), List.take_of_length_le h]
  simp only [dSl, cutD, z, List.drop_zero, e]
theorem row_ok {d : D} (h : okT d = true) : f_is_row [d] = some (.ret (.bl (isRow d)) []) := by
  unfold f_is_row m_is_row
  cases d with
  | tup ds =>
    have h0 : dIsi [0] .tuple (.tup ds) = some (.bl true) := rfl
    by_cases l : ds.length = 4
    · match ds, l with
      | [a, b, c, d], _ =>
        simp only [okT, List.all_cons, List.all_nil, Bool.and_true, Bool.and_eq_true] at h
        have e3 : dIx (.tup [a, b, c, d]) (.int 3) = some d := tix (j := 3) rfl rfl
        have k := key_ok (d := .tup [a, b, c]) (by simp [okT, h.1, h.2.1, h.2.2.1])
        have c3 : dSl (.tup [a, b, c, d]) none (some 3) = some (.tup [a, b, c]) := cut3
        cases kk : isKey (.tup [a, b, c]) with
        | false =>
          have z : isRow (.tup [a, b, c, d]) = false := by simp only [isKey] at kk; simp only [isRow, kk, Bool.false_and]
          simp (config := { decide := false }) only [↓runDef, gOf, slotOf, endMs, ↓seqE, ↓bindE, bindO_ok, bindO_ex, bindO_none, seqO_nx, seqO_rt, seqO_rn, seqO_bk, seqO_ct, seqO_ex, seqO_none, ↓retE, ↓failE, ↓ifE, ↓andE, ↓andK_t, ↓andK_f, ↓orE, ↓orK_t, ↓orK_f, ↓andBE, ↓andBK_t, ↓andBK_f, ↓orBE, ↓orBK_t, ↓orBK_f, ↓chE, ↓chK_t, ↓chK_f, ifO_t, ifO_f, ↓mVa, ↓mFz, ↓mNm, ↓mFrz, ↓mOp2, ↓mOp1, ↓f2E, ↓f1E, ↓fsE, ansO_some, ansO_none, rdAll, Hd.rd, D.flat, ↓mCons, ↓mCall, ↓mTup, ↓mLst, ↓mFrzs, dBool, dadd, dsub, dgt, dMax2, dMin2, ↓mSet, ↓mSetN, ↓mSetIx, mKindN, isKindN, mWr, beq_self_eq_true, Sl.cell, Sl.put, ↓mFrzM, argDs, argD, apartB, putMu, ↓mCallF, ↓mCallN, Hd.isNm, nmu, List.cons_append, List.nil_append, List.length_cons, List.length_nil, List.replicate_succ, List.replicate_zero, List.getElem?_cons_zero, List.getElem?_cons_succ, List.set_cons_zero, List.set_cons_succ, List.any_nil, List.any_cons, Nat.reduceAdd, Nat.reduceSub, Nat.reduceBEq, if_true, if_false, Bool.false_eq_true, ↓reduceIte, Option.bind_some, Option.map_some, Bool.or_self, Bool.false_or, Bool.or_false, Bool.true_or, Bool.or_true, List.contains_nil, List.contains_cons, Bool.and_self, Bool.not_false, Bool.not_true, Bool.true_and, Bool.and_true, Bool.false_and, decide_true, decide_false, mIsi, h0, len4, ne44, mSl, dSome, c3, k, kk, z]
        | true =>
          have z : isRow (.tup [a, b, c, d]) = btw d 1 10000 := by simp only [isKey] at kk; simp only [isRow, kk, Bool.true_and]
          simp (config := { decide := false }) only [↓runDef, gOf, slotOf, endMs, ↓seqE, ↓bindE, bindO_ok, bindO_ex, bindO_none, seqO_nx, seqO_rt, seqO_rn, seqO_bk, seqO_ct, seqO_ex, seqO_none, ↓retE, ↓failE, ↓ifE, ↓andE, ↓andK_t, ↓andK_f, ↓orE, ↓orK_t, ↓orK_f, ↓andBE, ↓andBK_t, ↓andBK_f, ↓orBE, ↓orBK_t, ↓orBK_f, ↓chE, ↓chK_t, ↓chK_f, ifO_t, ifO_f, ↓mVa, ↓mFz, ↓mNm, ↓mFrz, ↓mOp2, ↓mOp1, ↓f2E, ↓f1E, ↓fsE, ansO_some, ansO_none, rdAll, Hd.rd, D.flat, ↓mCons, ↓mCall, ↓mTup, ↓mLst, ↓mFrzs, dBool, dadd, dsub, dgt, dMax2, dMin2, ↓mSet, ↓mSetN, ↓mSetIx, mKindN, isKindN, mWr, beq_self_eq_true, Sl.cell, Sl.put, ↓mFrzM, argDs, argD, apartB, putMu, ↓mCallF, ↓mCallN, Hd.isNm, nmu, List.cons_append, List.nil_append, List.length_cons, List.length_nil, List.replicate_succ, List.replicate_zero, List.getElem?_cons_zero, List.getElem?_cons_succ, List.set_cons_zero, List.set_cons_succ, List.any_nil, List.any_cons, Nat.reduceAdd, Nat.reduceSub, Nat.reduceBEq, if_true, if_false, Bool.false_eq_true, ↓reduceIte, Option.bind_some, Option.map_some, Bool.or_self, Bool.false_or, Bool.or_false, Bool.true_or, Bool.or_true, List.contains_nil, List.contains_cons, Bool.and_self, Bool.not_false, Bool.not_true, Bool.true_and, Bool.and_true, Bool.false_and, decide_true, decide_false, mIsi, h0, len4, ne44, mSl, dSome, c3, k, kk, z, e3, between_ok h.2.2.2]
    · have n : dNe (.int (ds.length : Nat)) (.int 4) = some (.bl true) := by rw [dne_int]; simp; omega
      have z : isRow (.tup ds) = false := by
        match ds, l with
        | [], _ => rfl
        | [_], _ => rfl
        | [_, _], _ => rfl
        | [_, _, _], _ => rfl
        | [_, _, _, _], l => exact absurd rfl l
        | _ :: _ :: _ :: _ :: _ :: _, _ => rfl
      simp (config := { decide := false }) only [↓runDef, gOf, slotOf, endMs, ↓seqE, ↓bindE, bindO_ok, bindO_ex, bindO_none, seqO_nx, seqO_rt, seqO_rn, seqO_bk, seqO_ct, seqO_ex, seqO_none, ↓retE, ↓failE, ↓ifE, ↓andE, ↓andK_t, ↓andK_f, ↓orE, ↓orK_t, ↓orK_f, ↓andBE, ↓andBK_t, ↓andBK_f, ↓orBE, ↓orBK_t, ↓orBK_f, ↓chE, ↓chK_t, ↓chK_f, ifO_t, ifO_f, ↓mVa, ↓mFz, ↓mNm, ↓mFrz, ↓mOp2, ↓mOp1, ↓f2E, ↓f1E, ↓fsE, ansO_some, ansO_none, rdAll, Hd.rd, D.flat, ↓mCons, ↓mCall, ↓mTup, ↓mLst, ↓mFrzs, dBool, dadd, dsub, dgt, dMax2, dMin2, ↓mSet, ↓mSetN, ↓mSetIx, mKindN, isKindN, mWr, beq_self_eq_true, Sl.cell, Sl.put, ↓mFrzM, argDs, argD, apartB, putMu, ↓mCallF, ↓mCallN, Hd.isNm, nmu, List.cons_append, List.nil_append, List.length_cons, List.length_nil, List.replicate_succ, List.replicate_zero, List.getElem?_cons_zero, List.getElem?_cons_succ, List.set_cons_zero, List.set_cons_succ, List.any_nil, List.any_cons, Nat.reduceAdd, Nat.reduceSub, Nat.reduceBEq, if_true, if_false, Bool.false_eq_true, ↓reduceIte, Option.bind_some, Option.map_some, Bool.or_self, Bool.false_or, Bool.or_false, Bool.true_or, Bool.or_true, List.contains_nil, List.contains_cons, Bool.and_self, Bool.not_false, Bool.not_true, Bool.true_and, Bool.and_true, Bool.false_and, decide_true, decide_false, mIsi, h0, dlen_t, n, z]
  | _ =>
    have h1 := isi_ok (T := .tuple) (okT_I h)
    simp (config := { decide := false }) only [↓runDef, gOf, slotOf, endMs, ↓seqE, ↓bindE, bindO_ok, bindO_ex, bindO_none, seqO_nx, seqO_rt, seqO_rn, seqO_bk, seqO_ct, seqO_ex, seqO_none, ↓retE, ↓failE, ↓ifE, ↓andE, ↓andK_t, ↓andK_f, ↓orE, ↓orK_t, ↓orK_f, ↓andBE, ↓andBK_t, ↓andBK_f, ↓orBE, ↓orBK_t, ↓orBK_f, ↓chE, ↓chK_t, ↓chK_f, ifO_t, ifO_f, ↓mVa, ↓mFz, ↓mNm, ↓mFrz, ↓mOp2, ↓mOp1, ↓f2E, ↓f1E, ↓fsE, ansO_some, ansO_none, rdAll, Hd.rd, D.flat, ↓mCons, ↓mCall, ↓mTup, ↓mLst, ↓mFrzs, dBool, dadd, dsub, dgt, dMax2, dMin2, ↓mSet, ↓mSetN, ↓mSetIx, mKindN, isKindN, mWr, beq_self_eq_true, Sl.cell, Sl.put, ↓mFrzM, argDs, argD, apartB, putMu, ↓mCallF, ↓mCallN, Hd.isNm, nmu, List.cons_append, List.nil_append, List.length_cons, List.length_nil, List.replicate_succ, List.replicate_zero, List.getElem?_cons_zero, List.getElem?_cons_succ, List.set_cons_zero, List.set_cons_succ, List.any_nil, List.any_cons, Nat.reduceAdd, Nat.reduceSub, Nat.reduceBEq, if_true, if_false, Bool.false_eq_true, ↓reduceIte, Option.bind_some, Option.map_some, Bool.or_self, Bool.false_or, Bool.or_false, Bool.true_or, Bool.or_true, List.contains_nil, List.contains_cons, Bool.and_self, Bool.not_false, Bool.not_true, Bool.true_and, Bool.and_true, Bool.false_and, decide_true, decide_false, mIsi, h1, isTy, isRow]
end Cq.Sh

set_option Elab.async false
set_option linter.all false
set_option maxRecDepth 100000
set_option maxHeartbeats 1000000
namespace Cq.Sh
open PySem PySem.Spec PyProof.Rows L2 Cq
/-! ### rows -/
structure Row where
  k : Str
  l : Int
  r : Int
  o : Int
  deriving DecidableEq
def Row.d (a : Row) : D := .tup [.str a.k, .int a.l, .int a.r, .int a.o]
def Row.key (a : Row) : Str × Int × Int := (a.k, a.l, a.r)
def kd (x : Str × Int × Int) : D := .tup [.str x.1, .int x.2.1, .int x.2.2]
structure Row.ok (a : Row) : Prop where
  hk : a.k ∈ kinds
  l0 : 0 ≤ a.l
  l1 : a.l ≤ 99
  r0 : 0 ≤ a.r
  r1 : a.r ≤ 99
  o0 : 1 ≤ a.o
  o1 : a.o ≤ 10000
theorem isRow_iff {a : Row} : isRow a.d = true ↔ a.ok := by
  simp only [isRow, Row.d, isK, btw, Bool.and_eq_true, decide_eq_true_eq]
  exact ⟨fun ⟨⟨⟨h1, h2⟩, h3⟩, h4⟩ => ⟨h1, h2.1, h2.2, h3.1, h3.2, h4.1, h4.2⟩, fun h => ⟨⟨⟨h.hk, h.l0, h.l1⟩, h.r0, h.r1⟩, h.o0, h.o1⟩⟩
theorem okT_row (a : Row) : okT a.d = true := rfl
theorem bls_map {α : Type} (f : α → Bool) : ∀ xs : List α, blsOf (xs.map fun x => D.bl (f x)) = some (xs.map f)
  | [] => rfl
  | x :: xs => by simp only [List.map_cons, blsOf, bls_map f xs]; rfl
theorem all_map {α : Type} (f : α → Bool) (xs : List α) : dAll [.lst (xs.map fun x => D.bl (f x))] = some (.bl (xs.all f)) := by
  simp only [dAll, bls_map, Option.map_some]
  congr 2
  induction xs with
  | nil => rfl
  | cons x xs ih => simp only [List.map_cons, List.all_cons, ih]; rfl
theorem py_map {α : Type} (f : α → D) (p : α → PyData) : ∀ {xs : List α}, (∀ x ∈ xs, (f x).py = some (p x)) → pyL (xs.map f) = some (xs.map p)
  | [], _ => rfl
  | x :: xs, h => by
    have t := py_map f p (xs := xs) fun y hy => h y (List.mem_cons_of_mem _ hy)
    simp only [List.map_cons, pyL, h x List.mem_cons_self, t]
def pk (x : Str × Int × Int) : PyData := .tuple [.str x.1, .int x.2.1, .int x.2.2]
def Row.p (a : Row) : PyData := .tuple [.str a.k, .int a.l, .int a.r, .int a.o]
theorem kd_py (x : Str × Int × Int) : (kd x).py = some (pk x) := rfl
theorem row_py (a : Row) : a.d.py = some a.p := rfl
theorem pk_eqv (x y : Str × Int × Int) : PyData.eqv (pk x) (pk y) = decide (x = y) := by
  obtain ⟨a, b, c⟩ := x
  obtain ⟨d, e, f⟩ := y
  simp only [pk, PyData.eqv, PyData.eqvAll, Bool.and_true]
  rw [Bool.eq_iff_iff]
  simp
theorem kind_strOk {x : Str} (h : x ∈ kinds) : PyData.strOk x = true := by
  revert x
  decide +kernel
theorem shaped_l {ps : List PyData} (h : ∀ p ∈ ps, p.canLay0 = true ∧ p.depth ≤ 50) : SeqAt.shaped (.list ps) = true := by
  have a : PyData.canLayAll0 ps = true ∧ PyData.depthAll ps ≤ 50 := by
    induction ps with
    | nil => simp [PyData.canLayAll0, PyData.depthAll]
    | cons p ps ih =>
      obtain ⟨i1, i2⟩ := ih fun q hq => h q (List.mem_cons_of_mem _ hq)
      obtain ⟨j1, j2⟩ := h p List.mem_cons_self
      simp only [PyData.canLayAll0, PyData.depthAll, i1, j1, Bool.and_self, true_and]
      omega
  obtain ⟨a1, a2⟩ := a
  have e : (PyData.list ps).canLay0 = true := by simp only [PyData.canLay0, a1]
  have e2 : (PyData.list ps).depth = PyData.depthAll ps + 1 := by simp only [PyData.depth]
  simp only [SeqAt.shaped, e, e2, Bool.true_and, decide_eq_true_eq]
  omega
theorem pk_lay {x : Str × Int × Int} (h : x.1 ∈ kinds) : (pk x).canLay0 = true ∧ (pk x).depth ≤ 50 := by
  simp [pk, PyData.canLay0, PyData.canLayAll0, PyData.depth, PyData.depthAll, kind_strOk h]
theorem pk_shaped {x : Str × Int × Int} (h : x.1 ∈ kinds) : SeqAt.shaped (pk x) = true := by
  obtain ⟨h1, h2⟩ := pk_lay h
  simp only [SeqAt.shaped, h1, Bool.true_and, decide_eq_true_eq]
  omega
theorem count_keys {ks : List (Str × Int × Int)} {x : Str × Int × Int} (h : ∀ k ∈ ks, k.1 ∈ kinds) (hx : x.1 ∈ kinds) : fCount (.lst (ks.map kd)) [kd x] = some (.int (ks.count x : Nat)) := by
  have e := py_map kd pk (xs := ks) fun k _ => kd_py k
  have s : SeqAt.shaped (.list (ks.map pk)) = true := shaped_l fun p hp => by
    obtain ⟨k, hk, rfl⟩ := List.mem_map.mp hp
    exact pk_lay (h k hk)
  simp only [fCount, e, kd_py]
  rw [if_pos ⟨s, pk_shaped hx⟩]
  congr 3
  rw [List.countP_map, List.count]
  congr 1
  funext k
  simp only [Function.comp, pk_eqv]
  rw [Bool.eq_iff_iff]
  simp
/-- a list or a tuple of rows -/
def Seq (q : D) (ds : List D) : Prop := q = .lst ds ∨ q = .tup ds
theorem Seq.it {q : D} {ds : List D} (h : Seq q ds) : itD q = some ds := by rcases h with rfl | rfl <;> rfl
theorem Seq.len {q : D} {ds : List D} (h : Seq q ds) : dLen [q] = some (.int ds.length) := by rcases h with rfl | rfl <;> rfl
theorem Seq.flat {q : D} {ds : List D} (h : Seq q ds) : q.flat = true := by rcases h with rfl | rfl <;> rfl
theorem itN_im {i : Nat} {g : Gm} {q : D} {ds : List D} (h : g[i]? = some (.im q)) (hq : itD q = some ds) : mItN i g = some (.ok ds g) := by
  simp only [mItN, Hd.rd, h, hq]
theorem rows_lc1 {q : D} {ds : List D} (hq : Seq q ds) (hl : ds.length ≤ 1000000) (h : ∀ d ∈ ds, okT d = true) {s2 s3 : Sl} : mLc (some 0) (mItN 0) [1] (tgNm 1) (M.ret true) e_are_rows_1 [.im q, .un, s2, s3] = some (.ok (.lst (ds.map fun d => .bl (isRow d))) [.im q, .un, s2, s3]) := by
  refine lc_map (fun d => d) (fun d => .bl (isRow d)) (by rw [itN_im rfl hq.it, List.map_id']) rfl hl rfl rfl fun d hd => ?_
  refine ⟨_, rfl, ?_, rfl⟩
  unfold e_are_rows_1
  simp (config := { decide := false }) only [↓runDef, gOf, slotOf, endMs, ↓seqE, ↓bindE, bindO_ok, bindO_ex, bindO_none, seqO_nx, seqO_rt, seqO_rn, seqO_bk, seqO_ct, seqO_ex, seqO_none, ↓retE, ↓failE, ↓ifE, ↓andE, ↓andK_t, ↓andK_f, ↓orE, ↓orK_t, ↓orK_f, ↓andBE, ↓andBK_t, ↓andBK_f, ↓orBE, ↓orBK_t, ↓orBK_f, ↓chE, ↓chK_t, ↓chK_f, ifO_t, ifO_f, ↓mVa, ↓mFz, ↓mNm, ↓mFrz, ↓mOp2, ↓mOp1, ↓f2E, ↓f1E, ↓fsE, ansO_some, ansO_none, rdAll, Hd.rd, D.flat, ↓mCons, ↓mCall, ↓mTup, ↓mLst, ↓mFrzs, dBool, dadd, dsub, dgt, dMax2, dMin2, ↓mSet, ↓mSetN, ↓mSetIx, mKindN, isKindN, mWr, beq_self_eq_true, Sl.cell, Sl.put, ↓mFrzM, argDs, argD, apartB, putMu, ↓mCallF, ↓mCallN, Hd.isNm, nmu, List.cons_append, List.nil_append, List.length_cons, List.length_nil, List.replicate_succ, List.replicate_zero, List.getElem?_cons_zero, List.getElem?_cons_succ, List.set_cons_zero, List.set_cons_succ, List.any_nil, List.any_cons, Nat.reduceAdd, Nat.reduceSub, Nat.reduceBEq, if_true, if_false, Bool.false_eq_true, ↓reduceIte, Option.bind_some, Option.map_some, Bool.or_self, Bool.false_or, Bool.or_false, Bool.true_or, Bool.or_true, List.contains_nil, List.contains_cons, Bool.and_self, Bool.not_false, Bool.not_true, Bool.true_and, Bool.and_true, Bool.false_and, decide_true, decide_false, lendOut, wipeG, row_ok (h d hd)]
theorem are_rows_long {q : D} {ds : List D} (hq : Seq q ds) (hl : 12 < ds.length) : f_are_rows [q] = some (.ret (.bl false) []) := by
  have c : decide ((12 : Int) < ds.length) = true := by simp; omega
  unfold f_are_rows m_are_rows
  simp (config := { decide := false }) only [↓runDef, gOf, slotOf, endMs, ↓seqE, ↓bindE, bindO_ok, bindO_ex, bindO_none, seqO_nx, seqO_rt, seqO_rn, seqO_bk, seqO_ct, seqO_ex, seqO_none, ↓retE, ↓failE, ↓ifE, ↓andE, ↓andK_t, ↓andK_f, ↓orE, ↓orK_t, ↓orK_f, ↓andBE, ↓andBK_t, ↓andBK_f, ↓orBE, ↓orBK_t, ↓orBK_f, ↓chE, ↓chK_t, ↓chK_f, ifO_t, ifO_f, ↓mVa, ↓mFz, ↓mNm, ↓mFrz, ↓mOp2, ↓mOp1, ↓f2E, ↓f1E, ↓fsE, ansO_some, ansO_none, rdAll, Hd.rd, D.flat, ↓mCons, ↓mCall, ↓mTup, ↓mLst, ↓mFrzs, dBool, dadd, dsub, dgt, dMax2, dMin2, ↓mSet, ↓mSetN, ↓mSetIx, mKindN, isKindN, mWr, beq_self_eq_true, Sl.cell, Sl.put, ↓mFrzM, argDs, argD, apartB, putMu, ↓mCallF, ↓mCallN, Hd.isNm, nmu, List.cons_append, List.nil_append, List.length_cons, List.length_nil, List.replicate_succ, List.replicate_zero, List.getElem?_cons_zero, List.getElem?_cons_succ, List.set_cons_zero, List.set_cons_succ, List.any_nil, List.any_cons, Nat.reduceAdd, Nat.reduceSub, Nat.reduceBEq, if_true, if_false, Bool.false_eq_true, ↓reduceIte, Option.bind_some, Option.map_some, Bool.or_self, Bool.false_or, Bool.or_false, Bool.true_or, Bool.or_true, List.contains_nil, List.contains_cons, Bool.and_self, Bool.not_false, Bool.not_true, Bool.true_and, Bool.and_true, Bool.false_and, decide_true, decide_false, hq.len, c]
theorem are_rows_bad {q : D} {ds : List D} (hq : Seq q ds) (h : ∀ d ∈ ds, okT d = true) (hb : ds.all isRow = false) : f_are_rows [q] = some (.ret (.bl false) []) := by
  by_cases hl : 12 < ds.length
  · exact are_rows_long hq hl
  · have c : decide ((12 : Int) < ds.length) = false := by simp; omega
    unfold f_are_rows m_are_rows
    simp (config := { decide := false }) only [↓runDef, gOf, slotOf, endMs, ↓seqE, ↓bindE, bindO_ok, bindO_ex, bindO_none, seqO_nx, seqO_rt, seqO_rn, seqO_bk, seqO_ct, seqO_ex, seqO_none, ↓retE, ↓failE, ↓ifE, ↓andE, ↓andK_t, ↓andK_f, ↓orE, ↓orK_t, ↓orK_f, ↓andBE, ↓andBK_t, ↓andBK_f, ↓orBE, ↓orBK_t, ↓orBK_f, ↓chE, ↓chK_t, ↓chK_f, ifO_t, ifO_f, ↓mVa, ↓mFz, ↓mNm, ↓mFrz, ↓mOp2, ↓mOp1, ↓f2E, ↓f1E, ↓fsE, ansO_some, ansO_none, rdAll, Hd.rd, D.flat, ↓mCons, ↓mCall, ↓mTup, ↓mLst, ↓mFrzs, dBool, dadd, dsub, dgt, dMax2, dMin2, ↓mSet, ↓mSetN, ↓mSetIx, mKindN, isKindN, mWr, beq_self_eq_true, Sl.cell, Sl.put, ↓mFrzM, argDs, argD, apartB, putMu, ↓mCallF, ↓mCallN, Hd.isNm, nmu, List.cons_append, List.nil_append, List.length_cons, List.length_nil, List.replicate_succ, List.replicate_zero, List.getElem?_cons_zero, List.getElem?_cons_succ, List.set_cons_zero, List.set_cons_succ, List.any_nil, List.any_cons, Nat.reduceAdd, Nat.reduceSub, Nat.reduceBEq, if_true, if_false, Bool.false_eq_true, ↓reduceIte, Option.bind_some, Option.map_some, Bool.or_self, Bool.false_or, Bool.or_false, Bool.true_or, Bool.or_true, List.contains_nil, List.contains_cons, Bool.and_self, Bool.not_false, Bool.not_true, Bool.true_and, Bool.and_true, Bool.false_and, decide_true, decide_false, hq.len, c, rows_lc1 hq (by omega) h, all_map, hb]
theorem nodup_all {α : Type} [DecidableEq α] [BEq α] [LawfulBEq α] (ks : List α) : (ks.all fun k => decide (ks.count k = 1)) = decide ks.Nodup := by
  rw [Bool.eq_iff_iff]
  simp only [List.all_eq_true, decide_eq_true_eq]
  rw [List.nodup_iff_count]
  constructor
  · intro h a
    by_cases m : a ∈ ks
    · rw [h a m]; exact Nat.le_refl _
    · rw [List.count_eq_zero_of_not_mem m]; exact Nat.zero_le _
  · intro h a m
    have := h a
    have : 0 < ks.count a := List.count_pos_iff.mpr m
    omega
theorem are_rows_ok {q : D} {rs : List Row} (hq : Seq q (rs.map Row.d)) (hl : rs.length ≤ 12) (h : ∀ r ∈ rs, r.ok) : f_are_rows [q] = some (.ret (.bl (decide (rs.map Row.key).Nodup)) []) := by
  have c : decide ((12 : Int) < ((rs.map Row.d).length : Nat)) = false := by simp; omega
  have l1 := rows_lc1 (s2 := .un) (s3 := .un) hq (by simp; omega) fun d hd => by
    obtain ⟨r, _, rfl⟩ := List.mem_map.mp hd
    exact okT_row r
  have a1 : (rs.map Row.d).all isRow = true := by
    simp only [List.all_map, List.all_eq_true]
    exact fun r hr => isRow_iff.mpr (h r hr)
  have l2 : mLc (some 0) (mItN 0) [1] (tgNm 1) (M.ret true) e_are_rows_2 [.im q, .un, .un, .un] = some (.ok (.lst (rs.map fun r => kd r.key)) [.im q, .un, .un, .un]) := by
    refine lc_map Row.d (fun r => kd r.key) (itN_im rfl hq.it) rfl (by omega) rfl rfl fun r hr => ?_
    refine ⟨_, rfl, ?_, rfl⟩
    have c3 : dSl r.d none (some 3) = some (kd r.key) := cut3
    unfold e_are_rows_2
    simp (config := { decide := false }) only [↓runDef, gOf, slotOf, endMs, ↓seqE, ↓bindE, bindO_ok, bindO_ex, bindO_none, seqO_nx, seqO_rt, seqO_rn, seqO_bk, seqO_ct, seqO_ex, seqO_none, ↓retE, ↓failE, ↓ifE, ↓andE, ↓andK_t, ↓andK_f, ↓orE, ↓orK_t, ↓orK_f, ↓andBE, ↓andBK_t, ↓andBK_f, ↓orBE, ↓orBK_t, ↓orBK_f, ↓chE, ↓chK_t, ↓chK_f, ifO_t, ifO_f, ↓mVa, ↓mFz, ↓mNm, ↓mFrz, ↓mOp2, ↓mOp1, ↓f2E, ↓f1E, ↓fsE, ansO_some, ansO_none, rdAll, Hd.rd, D.flat, ↓mCons, ↓mCall, ↓mTup, ↓mLst, ↓mFrzs, dBool, dadd, dsub, dgt, dMax2, dMin2, ↓mSet, ↓mSetN, ↓mSetIx, mKindN, isKindN, mWr, beq_self_eq_true, Sl.cell, Sl.put, ↓mFrzM, argDs, argD, apartB, putMu, ↓mCallF, ↓mCallN, Hd.isNm, nmu, List.cons_append, List.nil_append, List.length_cons, List.length_nil, List.replicate_succ, List.replicate_zero, List.getElem?_cons_zero, List.getElem?_cons_succ, List.set_cons_zero, List.set_cons_succ, List.any_nil, List.any_cons, Nat.reduceAdd, Nat.reduceSub, Nat.reduceBEq, if_true, if_false, Bool.false_eq_true, ↓reduceIte, Option.bind_some, Option.map_some, Bool.or_self, Bool.false_or, Bool.or_false, Bool.true_or, Bool.or_true, List.contains_nil, List.contains_cons, Bool.and_self, Bool.not_false, Bool.not_true, Bool.true_and, Bool.and_true, Bool.false_and, decide_true, decide_false, lendOut, wipeG, mSl, dSome, c3]
  have ek : (rs.map fun r => kd r.key) = (rs.map Row.key).map kd := by rw [List.map_map]; rfl
  have l3 : mLc (some 2) (mItN 2) [3] (tgNm 3) (M.ret true) e_are_rows_3 [.im q, .un, .im (.lst ((rs.map Row.key).map kd)), .un] = some (.ok (.lst ((rs.map Row.key).map fun x => .bl (decide ((rs.map Row.key).count x = 1)))) [.im q, .un, .im (.lst ((rs.map Row.key).map kd)), .un]) := by
    refine lc_map kd (fun x => .bl (decide ((rs.map Row.key).count x = 1))) (itN_im rfl rfl) rfl (by simp; omega) rfl rfl fun x hx => ?_
    refine ⟨_, rfl, ?_, rfl⟩
    have kk : ∀ k ∈ rs.map Row.key, k.1 ∈ kinds := fun k hk => by
      obtain ⟨r, hr, rfl⟩ := List.mem_map.mp hk
      exact (h r hr).hk
    have ce := count_keys kk (kk x hx)
    have de : dEq (.int (((rs.map Row.key).count x : Nat) : Int)) (.int 1) = some (.bl (decide ((rs.map Row.key).count x = 1))) := by
      rw [deq_int]
      congr 2
      rw [Bool.eq_iff_iff, decide_eq_true_eq, decide_eq_true_eq]
      omega
    unfold e_are_rows_3
    simp (config := { decide := false }) only [↓runDef, gOf, slotOf, endMs, ↓seqE, ↓bindE, bindO_ok, bindO_ex, bindO_none, seqO_nx, seqO_rt, seqO_rn, seqO_bk, seqO_ct, seqO_ex, seqO_none, ↓retE, ↓failE, ↓ifE, ↓andE, ↓andK_t, ↓andK_f, ↓orE, ↓orK_t, ↓orK_f, ↓andBE, ↓andBK_t, ↓andBK_f, ↓orBE, ↓orBK_t, ↓orBK_f, ↓chE, ↓chK_t, ↓chK_f, ifO_t, ifO_f, ↓mVa, ↓mFz, ↓mNm, ↓mFrz, ↓mOp2, ↓mOp1, ↓f2E, ↓f1E, ↓fsE, ansO_some, ansO_none, rdAll, Hd.rd, D.flat, ↓mCons, ↓mCall, ↓mTup, ↓mLst, ↓mFrzs, dBool, dadd, dsub, dgt, dMax2, dMin2, ↓mSet, ↓mSetN, ↓mSetIx, mKindN, isKindN, mWr, beq_self_eq_true, Sl.cell, Sl.put, ↓mFrzM, argDs, argD, apartB, putMu, ↓mCallF, ↓mCallN, Hd.isNm, nmu, List.cons_append, List.nil_append, List.length_cons, List.length_nil, List.replicate_succ, List.replicate_zero, List.getElem?_cons_zero, List.getElem?_cons_succ, List.set_cons_zero, List.set_cons_succ, List.any_nil, List.any_cons, Nat.reduceAdd, Nat.reduceSub, Nat.reduceBEq, if_true, if_false, Bool.false_eq_true, ↓reduceIte, Option.bind_some, Option.map_some, Bool.or_self, Bool.false_or, Bool.or_false, Bool.true_or, Bool.or_true, List.contains_nil, List.contains_cons, Bool.and_self, Bool.not_false, Bool.not_true, Bool.true_and, Bool.and_true, Bool.false_and, decide_true, decide_false, lendOut, wipeG, mMtK, mKind, isKind, ce, de]
  rw [ek] at l2
  unfold f_are_rows m_are_rows
  simp (config := { decide := false }) only [↓runDef, gOf, slotOf, endMs, ↓seqE, ↓bindE, bindO_ok, bindO_ex, bindO_none, seqO_nx, seqO_rt, seqO_rn, seqO_bk, seqO_ct, seqO_ex, seqO_none, ↓retE, ↓failE, ↓ifE, ↓andE, ↓andK_t, ↓andK_f, ↓orE, ↓orK_t, ↓orK_f, ↓andBE, ↓andBK_t, ↓andBK_f, ↓orBE, ↓orBK_t, ↓orBK_f, ↓chE, ↓chK_t, ↓chK_f, ifO_t, ifO_f, ↓mVa, ↓mFz, ↓mNm, ↓mFrz, ↓mOp2, ↓mOp1, ↓f2E, ↓f1E, ↓fsE, ansO_some, ansO_none, rdAll, Hd.rd, D.flat, ↓mCons, ↓mCall, ↓mTup, ↓mLst, ↓mFrzs, dBool, dadd, dsub, dgt, dMax2, dMin2, ↓mSet, ↓mSetN, ↓mSetIx, mKindN, isKindN, mWr, beq_self_eq_true, Sl.cell, Sl.put, ↓mFrzM, argDs, argD, apartB, putMu, ↓mCallF, ↓mCallN, Hd.isNm, nmu, List.cons_append, List.nil_append, List.length_cons, List.length_nil, List.replicate_succ, List.replicate_zero, List.getElem?_cons_zero, List.getElem?_cons_succ, List.set_cons_zero, List.set_cons_succ, List.any_nil, List.any_cons, Nat.reduceAdd, Nat.reduceSub, Nat.reduceBEq, if_true, if_false, Bool.false_eq_true, ↓reduceIte, Option.bind_some, Option.map_some, Bool.or_self, Bool.false_or, Bool.or_false, Bool.true_or, Bool.or_true, List.contains_nil, List.contains_cons, Bool.and_self, Bool.not_false, Bool.not_true, Bool.true_and, Bool.and_true, Bool.false_and, decide_true, decide_false, hq.len, c, l1, all_map, a1, l2, l3, nodup_all]
end Cq.Sh

set_option Elab.async false
set_option linter.all false
set_option maxRecDepth 100000
set_option maxHeartbeats 1000000
namespace Cq.Sh
open PySem PySem.Spec PyProof.Rows L2 Cq
/-! ### sorted rows -/
def Row.le (a b : Row) : Bool := leD a.d b.d
theorem leD_total : PySem.W.TotalLe leD := PySem.W.sortLe_total (PyProof.Rows.listOrd PyProof.Rows.itemOrd) false fun b => PySem.W.keyToks (pyD b)
theorem leD_anti {d e : D} (h1 : leD d e = true) (h2 : leD e d = true) : PySem.W.keyToks (pyD d) = PySem.W.keyToks (pyD e) := by
  have a : (PyProof.Rows.listOrd PyProof.Rows.itemOrd).blt (PySem.W.keyToks (pyD e)) (PySem.W.keyToks (pyD d)) = false := by
    have : (!(PyProof.Rows.listOrd PyProof.Rows.itemOrd).blt (PySem.W.keyToks (pyD e)) (PySem.W.keyToks (pyD d))) = true := h1
    simpa using this
  have b : (PyProof.Rows.listOrd PyProof.Rows.itemOrd).blt (PySem.W.keyToks (pyD d)) (PySem.W.keyToks (pyD e)) = false := by
    have : (!(PyProof.Rows.listOrd PyProof.Rows.itemOrd).blt (PySem.W.keyToks (pyD d)) (PySem.W.keyToks (pyD e))) = true := h2
    simpa using this
  exact (PyProof.Rows.listOrd PyProof.Rows.itemOrd).total _ _ b a
theorem row_toks (a : Row) : PySem.W.keyToks (pyD a.d) = [.inl 1, .inr a.k.cps.toList, .inl 1, .inl a.l, .inl 1, .inl a.r, .inl 1, .inl a.o, .inl 0] := by
  simp [pyD, row_py, Row.p, PySem.W.keyToks, PySem.W.keyToksAll]
theorem row_inj {a b : Row} (h : PySem.W.keyToks (pyD a.d) = PySem.W.keyToks (pyD b.d)) : a = b := by
  rw [row_toks, row_toks] at h
  simp only [List.cons.injEq, Sum.inr.injEq, Sum.inl.injEq, true_and, and_true] at h
  obtain ⟨k1, l1, r1, o1⟩ := a
  obtain ⟨k2, l2, r2, o2⟩ := b
  obtain ⟨h1, h2, h3, h4⟩ := h
  have := PySem.W.str_of_cps h1
  simp only at this h2 h3 h4
  rw [this, h2, h3, h4]
def srt (rs : List Row) : List Row := rs.mergeSort Row.le
theorem row_total : PySem.W.TotalLe Row.le := ⟨fun a b c h1 h2 => leD_total.trans a.d b.d c.d h1 h2, fun a b => leD_total.total a.d b.d⟩
theorem srt_perm (rs : List Row) : (srt rs).Perm rs := List.mergeSort_perm rs Row.le
theorem srt_eq {rs rs' : List Row} (h : rs.Perm rs') : srt rs = srt rs' :=
  List.Perm.eq_of_pairwise (le := fun a b => Row.le a b = true) (fun a b _ _ h1 h2 => row_inj (leD_anti h1 h2)) (PySem.W.sort_pairwise row_total rs) (PySem.W.sort_pairwise row_total rs') ((srt_perm rs).trans (h.trans (srt_perm rs').symm))
theorem srt_srt (rs : List Row) : srt (srt rs) = srt rs := srt_eq (srt_perm rs)
theorem alike_row (a b : Row) : PySem.W.alike a.p b.p = true := by simp [Row.p, PySem.W.alike, PySem.W.alikeAll]
theorem sort_l (rs : List Row) (hl : rs.length ≤ 1000000) : dSortL (rs.map Row.d) = some ((srt rs).map Row.d) := by
  have e : pyL (rs.map Row.d) = some (rs.map Row.p) := py_map Row.d Row.p fun r _ => row_py r
  have s : sortB (rs.map Row.p) = true := by
    simp only [sortB, alikeB, Bool.and_eq_true, Bool.or_eq_true, List.all_eq_true, List.all_map, Function.comp, decide_eq_true_eq]
    refine ⟨⟨fun a _ b _ => alike_row a b, .inl fun a _ => rfl⟩, fun a _ => ?_⟩
    simp [Row.p, PyData.depth, PyData.depthAll]
  simp only [dSortL, e]
  rw [if_pos ⟨s, by simpa using hl⟩]
  congr 1
  exact (PySem.W.sort_maps (r := Row.le) (s := leD) Row.d (l := rs) fun a _ b _ => rfl).symm
theorem sorted_seq {q : D} {rs : List Row} (hq : Seq q (rs.map Row.d)) (hl : rs.length ≤ 1000000) : dSorted [q] = some (.lst ((srt rs).map Row.d)) := by
  rcases hq with rfl | rfl <;> simp only [dSorted, sort_l rs hl, Option.map_some]
/-! ### tables -/
structure Good (rs : List Row) : Prop where
  len : rs.length ≤ 12
  ok : ∀ r ∈ rs, r.ok
  nd : (rs.map Row.key).Nodup
theorem Good.perm {rs rs' : List Row} (h : Good rs) (p : rs'.Perm rs) : Good rs' := ⟨by rw [p.length_eq]; exact h.len, fun r hr => h.ok r (p.mem_iff.mp hr), ((p.map Row.key).nodup_iff).mpr h.nd⟩
theorem Good.srt {rs : List Row} (h : Good rs) : Good (srt rs) := h.perm (srt_perm rs)
theorem good_rows {q : D} {rs : List Row} (hq : Seq q (rs.map Row.d)) (h : Good rs) : f_are_rows [q] = some (.ret (.bl true) []) := by
  rw [are_rows_ok hq h.len h.ok, decide_eq_true h.nd]
/-- a table of these rows -/
def tb (rs : List Row) : D := .ins 0 [(0, .tup (rs.map Row.d))]
theorem tinit_ok {rs : List Row} (h : Good rs) : f_Table___init [.ins 0 [], .tup (rs.map Row.d)] = some (.ret .non [tb (srt rs)]) := by
  have a := good_rows (q := .tup (rs.map Row.d)) (.inr rfl) h
  have s := sorted_seq (q := .tup (rs.map Row.d)) (rs := rs) (.inr rfl) (by have := h.len; omega)
  unfold f_Table___init m_Table___init
  simp (config := { decide := false }) only [↓runDef, gOf, slotOf, endMs, ↓seqE, ↓bindE, bindO_ok, bindO_ex, bindO_none, seqO_nx, seqO_rt, seqO_rn, seqO_bk, seqO_ct, seqO_ex, seqO_none, ↓retE, ↓failE, ↓ifE, ↓andE, ↓andK_t, ↓andK_f, ↓orE, ↓orK_t, ↓orK_f, ↓andBE, ↓andBK_t, ↓andBK_f, ↓orBE, ↓orBK_t, ↓orBK_f, ↓chE, ↓chK_t, ↓chK_f, ifO_t, ifO_f, ↓mVa, ↓mFz, ↓mNm, ↓mFrz, ↓mOp2, ↓mOp1, ↓f2E, ↓f1E, ↓fsE, ansO_some, ansO_none, rdAll, Hd.rd, D.flat, ↓mCons, ↓mCall, ↓mTup, ↓mLst, ↓mFrzs, dBool, dadd, dsub, dgt, dMax2, dMin2, ↓mSet, ↓mSetN, ↓mSetIx, mKindN, isKindN, mWr, beq_self_eq_true, Sl.cell, Sl.put, ↓mFrzM, argDs, argD, apartB, putMu, ↓mCallF, ↓mCallN, Hd.isNm, nmu, List.cons_append, List.nil_append, List.length_cons, List.length_nil, List.replicate_succ, List.replicate_zero, List.getElem?_cons_zero, List.getElem?_cons_succ, List.set_cons_zero, List.set_cons_succ, List.any_nil, List.any_cons, Nat.reduceAdd, Nat.reduceSub, Nat.reduceBEq, if_true, if_false, Bool.false_eq_true, ↓reduceIte, Option.bind_some, Option.map_some, Bool.or_self, Bool.false_or, Bool.or_false, Bool.true_or, Bool.or_true, List.contains_nil, List.contains_cons, Bool.and_self, Bool.not_false, Bool.not_true, Bool.true_and, Bool.and_true, Bool.false_and, decide_true, decide_false, a, s, dTuple, mStF]
  rfl
theorem tmks_ok {q : D} {rs : List Row} {g : Gm} {m : M D} (hq : Seq q (rs.map Row.d)) (h : Good rs) (hm : m g = some (.ok q g)) : mMkS 0 f_Table___init m g = some (.ok (tb (srt rs)) g) := by
  have l : (rs.map Row.d).length ≤ 1000000 := by have := h.len; simp; omega
  have e : seqL q = some (rs.map Row.d) := by rcases hq with rfl | rfl <;> rfl
  unfold mMkS
  simp only [bindE, hm, bindO_ok, e, l, if_true, mMk, tinit_ok h]
theorem rows_prop (rs : List Row) : f_Table_rows [tb rs] = some (.ret (.tup (rs.map Row.d)) []) := by
  have hf : mFld [0] 0 (.nm 0) [.im (tb rs)] = some (.ok (.tup (rs.map Row.d)) [.im (tb rs)]) := rfl
  unfold f_Table_rows m_Table_rows
  simp (config := { decide := false }) only [↓runDef, gOf, slotOf, endMs, ↓seqE, ↓bindE, bindO_ok, bindO_ex, bindO_none, seqO_nx, seqO_rt, seqO_rn, seqO_bk, seqO_ct, seqO_ex, seqO_none, ↓retE, ↓failE, ↓ifE, ↓andE, ↓andK_t, ↓andK_f, ↓orE, ↓orK_t, ↓orK_f, ↓andBE, ↓andBK_t, ↓andBK_f, ↓orBE, ↓orBK_t, ↓orBK_f, ↓chE, ↓chK_t, ↓chK_f, ifO_t, ifO_f, ↓mVa, ↓mFz, ↓mNm, ↓mFrz, ↓mOp2, ↓mOp1, ↓f2E, ↓f1E, ↓fsE, ansO_some, ansO_none, rdAll, Hd.rd, D.flat, ↓mCons, ↓mCall, ↓mTup, ↓mLst, ↓mFrzs, dBool, dadd, dsub, dgt, dMax2, dMin2, ↓mSet, ↓mSetN, ↓mSetIx, mKindN, isKindN, mWr, beq_self_eq_true, Sl.cell, Sl.put, ↓mFrzM, argDs, argD, apartB, putMu, ↓mCallF, ↓mCallN, Hd.isNm, nmu, List.cons_append, List.nil_append, List.length_cons, List.length_nil, List.replicate_succ, List.replicate_zero, List.getElem?_cons_zero, List.getElem?_cons_succ, List.set_cons_zero, List.set_cons_succ, List.any_nil, List.any_cons, Nat.reduceAdd, Nat.reduceSub, Nat.reduceBEq, if_true, if_false, Bool.false_eq_true, ↓reduceIte, Option.bind_some, Option.map_some, Bool.or_self, Bool.false_or, Bool.or_false, Bool.true_or, Bool.or_true, List.contains_nil, List.contains_cons, Bool.and_self, Bool.not_false, Bool.not_true, Bool.true_and, Bool.and_true, Bool.false_and, decide_true, decide_false, hf]
/-! ### texts -/
def num (i : Int) : Str := ((toString i : String) : Str)
def Row.line (a : Row) : Str := a.k ++ " " ++ num a.l ++ " " ++ num a.r ++ " " ++ num a.o
def Row.ln (a : Row) : Str := a.line ++ ("\n" : Str)
def text (rs : List Row) : Str := Txt.join "" (rs.map Row.ln)
theorem num_nat {i : Int} (h : 0 ≤ i) : TL.tl (num i) = TL.numL i.toNat := by
  have e : i = ((i.toNat : Nat) : Int) := by omega
  unfold num
  generalize i.toNat = n at e
  subst e
  exact TL.tl_num n
theorem len_app (x y : Str) : (x ++ y).length = x.length + y.length := by
  have := congrArg List.length (TL.tl_append x y)
  simpa [TL.len_tl] using this
theorem num_len {i : Int} (h : 0 ≤ i) (h1 : i < 10 ^ 5) : (num i).length ≤ 5 := by
  rw [TL.len_tl, num_nat h]
  exact TL.numL_len (by decide) (by omega)
theorem num_pos {i : Int} (h : 0 ≤ i) : 1 ≤ (num i).length := by
  rw [TL.len_tl, num_nat h]
  have := TL.numL_ne i.toNat
  exact List.length_pos_iff.mpr this
theorem small64 {i : Int} (h : 0 ≤ i) (h1 : i < 10 ^ 5) : i.natAbs < 2 ^ 64 := by omega
theorem fmt_num {i : Int} (h : i.natAbs < 2 ^ 64) : dFmt (.int i) = some (.str (num i)) := by simp [dFmt, h, num]
theorem str_num {i : Int} (h : i.natAbs < 2 ^ 64) : dStr [.int i] = some (.str (num i)) := by simp [dStr, h, num]
theorem kind_len {x : Str} (h : x ∈ kinds) : x.length = 1 := by
  simp only [kinds, List.mem_cons, List.not_mem_nil, or_false] at h
  rcases h with rfl | rfl | rfl <;> rfl
theorem line_len {a : Row} (h : a.ok) : a.line.length ≤ 19 := by
  have := num_len h.l0 (by have := h.l1; omega)
  have := num_len h.r0 (by have := h.r1; omega)
  have := num_len (i := a.o) (by have := h.o0; omega) (by have := h.o1; omega)
  have := kind_len h.hk
  unfold Row.line
  simp only [len_app, show (" " : Str).length = 1 from rfl]
  omega
end Cq.Sh

set_option Elab.async false
set_option linter.all false
set_option maxRecDepth 100000
set_option maxHeartbeats 1000000
namespace Cq.Sh
open PySem PySem.Spec PyProof.Rows L2 Cq
theorem sapp_empty (x : Str) : Str.empty ++ x = x := TL.ext_tl (by rw [TL.tl_append]; rfl)
theorem mJ_cons {m : M D} {ms : List (M D)} {acc y : Str} {g : Gm} (h : m g = some (.ok (.str y) g)) (l : acc.length + y.length ≤ 1000000) : mJ (m :: ms) acc g = mJ ms (acc ++ y) g := by
  have l' : (acc ++ y).length ≤ 1000000 := by rw [len_app]; exact l
  simp only [mJ, bindE, h, bindO_ok, l', if_true]
theorem mJ_nil {acc : Str} {g : Gm} : mJ [] acc g = some (.ok (.str acc) g) := rfl
theorem line_join (a : Row) : Txt.join " " [a.k, num a.l, num a.r, num a.o] = a.line := by
  rw [TL.join_eq]
  refine TL.ext_tl ?_
  simp only [Str.join, Row.line, TL.tl_append, List.append_assoc]
theorem strs_of : ∀ ws : List Str, strsOf (ws.map .str) = some ws
  | [] => rfl
  | w :: ws => by simp only [List.map_cons, strsOf, strs_of ws, Option.map_some]
theorem sum_le {α : Type} {f : α → Nat} {n : Nat} : ∀ {l : List α}, (∀ a ∈ l, f a ≤ n) → (l.map f).sum ≤ l.length * n
  | [], _ => by simp
  | a :: l, h => by
    have := sum_le (l := l) fun b hb => h b (List.mem_cons_of_mem _ hb)
    have := h a List.mem_cons_self
    simp only [List.map_cons, List.sum_cons, List.length_cons, Nat.add_mul, Nat.one_mul]
    omega
theorem join0 {rs : List Row} (h : Good rs) : fJoin (.str "") [.lst ((rs.map Row.ln).map .str)] = some (.str (text rs)) := by
  simp only [fJoin, strs_of]
  rw [if_pos]
  · rfl
  · have e : ((rs.map Row.ln).map (·.length)).sum ≤ rs.length * 20 := by
      rw [List.map_map]
      refine sum_le fun r hr => ?_
      have := line_len (h.ok r hr)
      simp only [Function.comp, Row.ln, len_app, show ("\n" : Str).length = 1 from rfl]
      omega
    have := h.len
    have z : ("" : Str).length = 0 := rfl
    rw [z]
    omega
theorem row_tg {a : Row} {s0 : Sl} : tgTup 4 (tgCons (tgNm 1) (tgCons (tgNm 2) (tgCons (tgNm 3) (tgCons (tgNm 4) tgNil)))) a.d [s0, .un, .un, .un, .un] = some [s0, .im (.str a.k), .im (.int a.l), .im (.int a.r), .im (.int a.o)] := rfl
theorem ttext_ok {rs : List Row} (h : Good rs) : f_Table_text [tb rs] = some (.ret (.str (text rs)) []) := by
  have hf : mFld [0] 0 (.nm 0) [.im (tb rs), .un, .un, .un, .un] = some (.ok (.tup (rs.map Row.d)) [.im (tb rs), .un, .un, .un, .un]) := rfl
  have hi : i_Table_text_1 [.im (tb rs), .un, .un, .un, .un] = some (.ok (rs.map Row.d) [.im (tb rs), .un, .un, .un, .un]) := by
    unfold i_Table_text_1 mIt
    simp (config := { decide := false }) only [↓runDef, gOf, slotOf, endMs, ↓seqE, ↓bindE, bindO_ok, bindO_ex, bindO_none, seqO_nx, seqO_rt, seqO_rn, seqO_bk, seqO_ct, seqO_ex, seqO_none, ↓retE, ↓failE, ↓ifE, ↓andE, ↓andK_t, ↓andK_f, ↓orE, ↓orK_t, ↓orK_f, ↓andBE, ↓andBK_t, ↓andBK_f, ↓orBE, ↓orBK_t, ↓orBK_f, ↓chE, ↓chK_t, ↓chK_f, ifO_t, ifO_f, ↓mVa, ↓mFz, ↓mNm, ↓mFrz, ↓mOp2, ↓mOp1, ↓f2E, ↓f1E, ↓fsE, ansO_some, ansO_none, rdAll, Hd.rd, D.flat, ↓mCons, ↓mCall, ↓mTup, ↓mLst, ↓mFrzs, dBool, dadd, dsub, dgt, dMax2, dMin2, ↓mSet, ↓mSetN, ↓mSetIx, mKindN, isKindN, mWr, beq_self_eq_true, Sl.cell, Sl.put, ↓mFrzM, argDs, argD, apartB, putMu, ↓mCallF, ↓mCallN, Hd.isNm, nmu, List.cons_append, List.nil_append, List.length_cons, List.length_nil, List.replicate_succ, List.replicate_zero, List.getElem?_cons_zero, List.getElem?_cons_succ, List.set_cons_zero, List.set_cons_succ, List.any_nil, List.any_cons, Nat.reduceAdd, Nat.reduceSub, Nat.reduceBEq, if_true, if_false, Bool.false_eq_true, ↓reduceIte, Option.bind_some, Option.map_some, Bool.or_self, Bool.false_or, Bool.or_false, Bool.true_or, Bool.or_true, List.contains_nil, List.contains_cons, Bool.and_self, Bool.not_false, Bool.not_true, Bool.true_and, Bool.and_true, Bool.false_and, decide_true, decide_false, hf, itD]
  have hc : mLc none i_Table_text_1 [1, 2, 3, 4] (tgTup 4 (tgCons (tgNm 1) (tgCons (tgNm 2) (tgCons (tgNm 3) (tgCons (tgNm 4) tgNil))))) (M.ret true) e_Table_text_2 [.im (tb rs), .un, .un, .un, .un] = some (.ok (.lst (rs.map fun r => .str r.ln)) [.im (tb rs), .un, .un, .un, .un]) := by
    refine lc_map Row.d (fun r => .str r.ln) hi rfl (by have := h.len; omega) rfl rfl fun r hr => ?_
    refine ⟨_, row_tg, ?_, rfl⟩
    have ok := h.ok r hr
    have n1 := num_len ok.l0 (by have := ok.l1; omega)
    have n2 := num_len ok.r0 (by have := ok.r1; omega)
    have n3 := num_len (i := r.o) (by have := ok.o0; omega) (by have := ok.o1; omega)
    have kl := kind_len ok.hk
    have f0 : dFmt (.str r.k) = some (.str r.k) := by simp [dFmt, kl]
    have f1 := fmt_num (small64 ok.l0 (by have := ok.l1; omega))
    have f2 := fmt_num (small64 ok.r0 (by have := ok.r1; omega))
    have f3 := fmt_num (i := r.o) (small64 (by have := ok.o0; omega) (by have := ok.o1; omega))
    have z : (" " : Str).length = 1 := rfl
    have z1 : ("\n" : Str).length = 1 := rfl
    have z0 : Str.empty.length = 0 := rfl
    unfold e_Table_text_2
    rw [mJ_cons (y := r.k) (by simp (config := { decide := false }) only [↓runDef, gOf, slotOf, endMs, ↓seqE, ↓bindE, bindO_ok, bindO_ex, bindO_none, seqO_nx, seqO_rt, seqO_rn, seqO_bk, seqO_ct, seqO_ex, seqO_none, ↓retE, ↓failE, ↓ifE, ↓andE, ↓andK_t, ↓andK_f, ↓orE, ↓orK_t, ↓orK_f, ↓andBE, ↓andBK_t, ↓andBK_f, ↓orBE, ↓orBK_t, ↓orBK_f, ↓chE, ↓chK_t, ↓chK_f, ifO_t, ifO_f, ↓mVa, ↓mFz, ↓mNm, ↓mFrz, ↓mOp2, ↓mOp1, ↓f2E, ↓f1E, ↓fsE, ansO_some, ansO_none, rdAll, Hd.rd, D.flat, ↓mCons, ↓mCall, ↓mTup, ↓mLst, ↓mFrzs, dBool, dadd, dsub, dgt, dMax2, dMin2, ↓mSet, ↓mSetN, ↓mSetIx, mKindN, isKindN, mWr, beq_self_eq_true, Sl.cell, Sl.put, ↓mFrzM, argDs, argD, apartB, putMu, ↓mCallF, ↓mCallN, Hd.isNm, nmu, List.cons_append, List.nil_append, List.length_cons, List.length_nil, List.replicate_succ, List.replicate_zero, List.getElem?_cons_zero, List.getElem?_cons_succ, List.set_cons_zero, List.set_cons_succ, List.any_nil, List.any_cons, Nat.reduceAdd, Nat.reduceSub, Nat.reduceBEq, if_true, if_false, Bool.false_eq_true, ↓reduceIte, Option.bind_some, Option.map_some, Bool.or_self, Bool.false_or, Bool.or_false, Bool.true_or, Bool.or_true, List.contains_nil, List.contains_cons, Bool.and_self, Bool.not_false, Bool.not_true, Bool.true_and, Bool.and_true, Bool.false_and, decide_true, decide_false, f0]) (by omega), mJ_cons (y := " ") rfl (by simp only [len_app]; omega), mJ_cons (y := num r.l) (by simp (config := { decide := false }) only [↓runDef, gOf, slotOf, endMs, ↓seqE, ↓bindE, bindO_ok, bindO_ex, bindO_none, seqO_nx, seqO_rt, seqO_rn, seqO_bk, seqO_ct, seqO_ex, seqO_none, ↓retE, ↓failE, ↓ifE, ↓andE, ↓andK_t, ↓andK_f, ↓orE, ↓orK_t, ↓orK_f, ↓andBE, ↓andBK_t, ↓andBK_f, ↓orBE, ↓orBK_t, ↓orBK_f, ↓chE, ↓chK_t, ↓chK_f, ifO_t, ifO_f, ↓mVa, ↓mFz, ↓mNm, ↓mFrz, ↓mOp2, ↓mOp1, ↓f2E, ↓f1E, ↓fsE, ansO_some, ansO_none, rdAll, Hd.rd, D.flat, ↓mCons, ↓mCall, ↓mTup, ↓mLst, ↓mFrzs, dBool, dadd, dsub, dgt, dMax2, dMin2, ↓mSet, ↓mSetN, ↓mSetIx, mKindN, isKindN, mWr, beq_self_eq_true, Sl.cell, Sl.put, ↓mFrzM, argDs, argD, apartB, putMu, ↓mCallF, ↓mCallN, Hd.isNm, nmu, List.cons_append, List.nil_append, List.length_cons, List.length_nil, List.replicate_succ, List.replicate_zero, List.getElem?_cons_zero, List.getElem?_cons_succ, List.set_cons_zero, List.set_cons_succ, List.any_nil, List.any_cons, Nat.reduceAdd, Nat.reduceSub, Nat.reduceBEq, if_true, if_false, Bool.false_eq_true, ↓reduceIte, Option.bind_some, Option.map_some, Bool.or_self, Bool.false_or, Bool.or_false, Bool.true_or, Bool.or_true, List.contains_nil, List.contains_cons, Bool.and_self, Bool.not_false, Bool.not_true, Bool.true_and, Bool.and_true, Bool.false_and, decide_true, decide_false, f1]) (by simp only [len_app]; omega), mJ_cons (y := " ") rfl (by simp only [len_app]; omega),
      mJ_cons (y := num r.r) (by simp (config := { decide := false }) only [↓runDef, gOf, slotOf, endMs, ↓seqE, ↓bindE, bindO_ok, bindO_ex, bindO_none, seqO_nx, seqO_rt, seqO_rn, seqO_bk, seqO_ct, seqO_ex, seqO_none, ↓retE, ↓failE, ↓ifE, ↓andE, ↓andK_t, ↓andK_f, ↓orE, ↓orK_t, ↓orK_f, ↓andBE, ↓andBK_t, ↓andBK_f, ↓orBE, ↓orBK_t, ↓orBK_f, ↓chE, ↓chK_t, ↓chK_f, ifO_t, ifO_f, ↓mVa, ↓mFz, ↓mNm, ↓mFrz, ↓mOp2, ↓mOp1, ↓f2E, ↓f1E, ↓fsE, ansO_some, ansO_none, rdAll, Hd.rd, D.flat, ↓mCons, ↓mCall, ↓mTup, ↓mLst, ↓mFrzs, dBool, dadd, dsub, dgt, dMax2, dMin2, ↓mSet, ↓mSetN, ↓mSetIx, mKindN, isKindN, mWr, beq_self_eq_true, Sl.cell, Sl.put, ↓mFrzM, argDs, argD, apartB, putMu, ↓mCallF, ↓mCallN, Hd.isNm, nmu, List.cons_append, List.nil_append, List.length_cons, List.length_nil, List.replicate_succ, List.replicate_zero, List.getElem?_cons_zero, List.getElem?_cons_succ, List.set_cons_zero, List.set_cons_succ, List.any_nil, List.any_cons, Nat.reduceAdd, Nat.reduceSub, Nat.reduceBEq, if_true, if_false, Bool.false_eq_true, ↓reduceIte, Option.bind_some, Option.map_some, Bool.or_self, Bool.false_or, Bool.or_false, Bool.true_or, Bool.or_true, List.contains_nil, List.contains_cons, Bool.and_self, Bool.not_false, Bool.not_true, Bool.true_and, Bool.and_true, Bool.false_and, decide_true, decide_false, f2]) (by simp only [len_app]; omega), mJ_cons (y := " ") rfl (by simp only [len_app]; omega), mJ_cons (y := num r.o) (by simp (config := { decide := false }) only [↓runDef, gOf, slotOf, endMs, ↓seqE, ↓bindE, bindO_ok, bindO_ex, bindO_none, seqO_nx, seqO_rt, seqO_rn, seqO_bk, seqO_ct, seqO_ex, seqO_none, ↓retE, ↓failE, ↓ifE, ↓andE, ↓andK_t, ↓andK_f, ↓orE, ↓orK_t, ↓orK_f, ↓andBE, ↓andBK_t, ↓andBK_f, ↓orBE, ↓orBK_t, ↓orBK_f, ↓chE, ↓chK_t, ↓chK_f, ifO_t, ifO_f, ↓mVa, ↓mFz, ↓mNm, ↓mFrz, ↓mOp2, ↓mOp1, ↓f2E, ↓f1E, ↓fsE, ansO_some, ansO_none, rdAll, Hd.rd, D.flat, ↓mCons, ↓mCall, ↓mTup, ↓mLst, ↓mFrzs, dBool, dadd, dsub, dgt, dMax2, dMin2, ↓mSet, ↓mSetN, ↓mSetIx, mKindN, isKindN, mWr, beq_self_eq_true, Sl.cell, Sl.put, ↓mFrzM, argDs, argD, apartB, putMu, ↓mCallF, ↓mCallN, Hd.isNm, nmu, List.cons_append, List.nil_append, List.length_cons, List.length_nil, List.replicate_succ, List.replicate_zero, List.getElem?_cons_zero, List.getElem?_cons_succ, List.set_cons_zero, List.set_cons_succ, List.any_nil, List.any_cons, Nat.reduceAdd, Nat.reduceSub, Nat.reduceBEq, if_true, if_false, Bool.false_eq_true, ↓reduceIte, Option.bind_some, Option.map_some, Bool.or_self, Bool.false_or, Bool.or_false, Bool.true_or, Bool.or_true, List.contains_nil, List.contains_cons, Bool.and_self, Bool.not_false, Bool.not_true, Bool.true_and, Bool.and_true, Bool.false_and, decide_true, decide_false, f3]) (by simp only [len_app]; omega), mJ_cons (y := "\n") rfl (by simp only [len_app]; omega), mJ_nil, sapp_empty]
    rfl
  have e : (rs.map fun r => D.str r.ln) = (rs.map Row.ln).map D.str := by rw [List.map_map]; rfl
  rw [e] at hc
  unfold f_Table_text m_Table_text
  simp (config := { decide := false }) only [↓runDef, gOf, slotOf, endMs, ↓seqE, ↓bindE, bindO_ok, bindO_ex, bindO_none, seqO_nx, seqO_rt, seqO_rn, seqO_bk, seqO_ct, seqO_ex, seqO_none, ↓retE, ↓failE, ↓ifE, ↓andE, ↓andK_t, ↓andK_f, ↓orE, ↓orK_t, ↓orK_f, ↓andBE, ↓andBK_t, ↓andBK_f, ↓orBE, ↓orBK_t, ↓orBK_f, ↓chE, ↓chK_t, ↓chK_f, ifO_t, ifO_f, ↓mVa, ↓mFz, ↓mNm, ↓mFrz, ↓mOp2, ↓mOp1, ↓f2E, ↓f1E, ↓fsE, ansO_some, ansO_none, rdAll, Hd.rd, D.flat, ↓mCons, ↓mCall, ↓mTup, ↓mLst, ↓mFrzs, dBool, dadd, dsub, dgt, dMax2, dMin2, ↓mSet, ↓mSetN, ↓mSetIx, mKindN, isKindN, mWr, beq_self_eq_true, Sl.cell, Sl.put, ↓mFrzM, argDs, argD, apartB, putMu, ↓mCallF, ↓mCallN, Hd.isNm, nmu, List.cons_append, List.nil_append, List.length_cons, List.length_nil, List.replicate_succ, List.replicate_zero, List.getElem?_cons_zero, List.getElem?_cons_succ, List.set_cons_zero, List.set_cons_succ, List.any_nil, List.any_cons, Nat.reduceAdd, Nat.reduceSub, Nat.reduceBEq, if_true, if_false, Bool.false_eq_true, ↓reduceIte, Option.bind_some, Option.map_some, Bool.or_self, Bool.false_or, Bool.or_false, Bool.true_or, Bool.or_true, List.contains_nil, List.contains_cons, Bool.and_self, Bool.not_false, Bool.not_true, Bool.true_and, Bool.and_true, Bool.false_and, decide_true, decide_false, mMtK, mKind, isKind, hc, join0 h]
def strD' : D → D
  | .str x => .str x
  | .int i => .str (num i)
  | _ => .non
theorem ltext_seq {q : D} {rs : List Row} (hq : Seq q (rs.map Row.d)) (h : Good rs) : f_x_law_text [q] = some (.ret (.str (text (srt rs))) []) := by
  have hg := h.srt
  have hs := sorted_seq (q := q) (rs := rs) hq (by have := h.len; omega)
  have hi : i_x_law_text_2 [.im q, .un, .un] = some (.ok ((srt rs).map Row.d) [.im q, .un, .un]) := by
    unfold i_x_law_text_2 mIt
    simp (config := { decide := false }) only [↓runDef, gOf, slotOf, endMs, ↓seqE, ↓bindE, bindO_ok, bindO_ex, bindO_none, seqO_nx, seqO_rt, seqO_rn, seqO_bk, seqO_ct, seqO_ex, seqO_none, ↓retE, ↓failE, ↓ifE, ↓andE, ↓andK_t, ↓andK_f, ↓orE, ↓orK_t, ↓orK_f, ↓andBE, ↓andBK_t, ↓andBK_f, ↓orBE, ↓orBK_t, ↓orBK_f, ↓chE, ↓chK_t, ↓chK_f, ifO_t, ifO_f, ↓mVa, ↓mFz, ↓mNm, ↓mFrz, ↓mOp2, ↓mOp1, ↓f2E, ↓f1E, ↓fsE, ansO_some, ansO_none, rdAll, Hd.rd, D.flat, ↓mCons, ↓mCall, ↓mTup, ↓mLst, ↓mFrzs, dBool, dadd, dsub, dgt, dMax2, dMin2, ↓mSet, ↓mSetN, ↓mSetIx, mKindN, isKindN, mWr, beq_self_eq_true, Sl.cell, Sl.put, ↓mFrzM, argDs, argD, apartB, putMu, ↓mCallF, ↓mCallN, Hd.isNm, nmu, List.cons_append, List.nil_append, List.length_cons, List.length_nil, List.replicate_succ, List.replicate_zero, List.getElem?_cons_zero, List.getElem?_cons_succ, List.set_cons_zero, List.set_cons_succ, List.any_nil, List.any_cons, Nat.reduceAdd, Nat.reduceSub, Nat.reduceBEq, if_true, if_false, Bool.false_eq_true, ↓reduceIte, Option.bind_some, Option.map_some, Bool.or_self, Bool.false_or, Bool.or_false, Bool.true_or, Bool.or_true, List.contains_nil, List.contains_cons, Bool.and_self, Bool.not_false, Bool.not_true, Bool.true_and, Bool.and_true, Bool.false_and, decide_true, decide_false, hs, itD]
  have hc : mLc none i_x_law_text_2 [2] (tgNm 2) (M.ret true) e_x_law_text_3 [.im q, .un, .un] = some (.ok (.lst ((srt rs).map fun r => .str r.ln)) [.im q, .un, .un]) := by
    refine lc_map Row.d (fun r => .str r.ln) hi rfl (by have := hg.len; omega) rfl rfl fun r hr => ?_
    refine ⟨_, rfl, ?_, rfl⟩
    have ok := hg.ok r hr
    have f1 := str_num (small64 ok.l0 (by have := ok.l1; omega))
    have f2 := str_num (small64 ok.r0 (by have := ok.r1; omega))
    have f3 := str_num (i := r.o) (small64 (by have := ok.o0; omega) (by have := ok.o1; omega))
    have ll := line_len ok
    have hw : mLc (some 2) (mItN 2) [1] (tgNm 1) (M.ret true) e_x_law_text_1 [.im q, .un, .im r.d] = some (.ok (.lst ([r.k, num r.l, num r.r, num r.o].map .str)) [.im q, .un, .im r.d]) := by
      have := lc_map (l := some 2) (it := mItN 2) (vs := [1]) (T := tgNm 1) (e := e_x_law_text_1) (g := [.im q, .un, .im r.d]) (xs := [.str r.k, .int r.l, .int r.r, .int r.o]) (fun d => d) strD' rfl rfl (Nat.le_of_lt_succ (by simp)) rfl rfl fun d hd => by
        refine ⟨_, rfl, ?_, rfl⟩
        unfold e_x_law_text_1
        simp only [List.mem_cons, List.not_mem_nil, or_false] at hd
        rcases hd with rfl | rfl | rfl | rfl
        · simp (config := { decide := false }) only [↓runDef, gOf, slotOf, endMs, ↓seqE, ↓bindE, bindO_ok, bindO_ex, bindO_none, seqO_nx, seqO_rt, seqO_rn, seqO_bk, seqO_ct, seqO_ex, seqO_none, ↓retE, ↓failE, ↓ifE, ↓andE, ↓andK_t, ↓andK_f, ↓orE, ↓orK_t, ↓orK_f, ↓andBE, ↓andBK_t, ↓andBK_f, ↓orBE, ↓orBK_t, ↓orBK_f, ↓chE, ↓chK_t, ↓chK_f, ifO_t, ifO_f, ↓mVa, ↓mFz, ↓mNm, ↓mFrz, ↓mOp2, ↓mOp1, ↓f2E, ↓f1E, ↓fsE, ansO_some, ansO_none, rdAll, Hd.rd, D.flat, ↓mCons, ↓mCall, ↓mTup, ↓mLst, ↓mFrzs, dBool, dadd, dsub, dgt, dMax2, dMin2, ↓mSet, ↓mSetN, ↓mSetIx, mKindN, isKindN, mWr, beq_self_eq_true, Sl.cell, Sl.put, ↓mFrzM, argDs, argD, apartB, putMu, ↓mCallF, ↓mCallN, Hd.isNm, nmu, List.cons_append, List.nil_append, List.length_cons, List.length_nil, List.replicate_succ, List.replicate_zero, List.getElem?_cons_zero, List.getElem?_cons_succ, List.set_cons_zero, List.set_cons_succ, List.any_nil, List.any_cons, Nat.reduceAdd, Nat.reduceSub, Nat.reduceBEq, if_true, if_false, Bool.false_eq_true, ↓reduceIte, Option.bind_some, Option.map_some, Bool.or_self, Bool.false_or, Bool.or_false, Bool.true_or, Bool.or_true, List.contains_nil, List.contains_cons, Bool.and_self, Bool.not_false, Bool.not_true, Bool.true_and, Bool.and_true, Bool.false_and, decide_true, decide_false, lendOut, wipeG, dStr, strD']
        · simp (config := { decide := false }) only [↓runDef, gOf, slotOf, endMs, ↓seqE, ↓bindE, bindO_ok, bindO_ex, bindO_none, seqO_nx, seqO_rt, seqO_rn, seqO_bk, seqO_ct, seqO_ex, seqO_none, ↓retE, ↓failE, ↓ifE, ↓andE, ↓andK_t, ↓andK_f, ↓orE, ↓orK_t, ↓orK_f, ↓andBE, ↓andBK_t, ↓andBK_f, ↓orBE, ↓orBK_t, ↓orBK_f, ↓chE, ↓chK_t, ↓chK_f, ifO_t, ifO_f, ↓mVa, ↓mFz, ↓mNm, ↓mFrz, ↓mOp2, ↓mOp1, ↓f2E, ↓f1E, ↓fsE, ansO_some, ansO_none, rdAll, Hd.rd, D.flat, ↓mCons, ↓mCall, ↓mTup, ↓mLst, ↓mFrzs, dBool, dadd, dsub, dgt, dMax2, dMin2, ↓mSet, ↓mSetN, ↓mSetIx, mKindN, isKindN, mWr, beq_self_eq_true, Sl.cell, Sl.put, ↓mFrzM, argDs, argD, apartB, putMu, ↓mCallF, ↓mCallN, Hd.isNm, nmu, List.cons_append, List.nil_append, List.length_cons, List.length_nil, List.replicate_succ, List.replicate_zero, List.getElem?_cons_zero, List.getElem?_cons_succ, List.set_cons_zero, List.set_cons_succ, List.any_nil, List.any_cons, Nat.reduceAdd, Nat.reduceSub, Nat.reduceBEq, if_true, if_false, Bool.false_eq_true, ↓reduceIte, Option.bind_some, Option.map_some, Bool.or_self, Bool.false_or, Bool.or_false, Bool.true_or, Bool.or_true, List.contains_nil, List.contains_cons, Bool.and_self, Bool.not_false, Bool.not_true, Bool.true_and, Bool.and_true, Bool.false_and, decide_true, decide_false, lendOut, wipeG, f1, strD']
        · simp (config := { decide := false }) only [↓runDef, gOf, slotOf, endMs, ↓seqE, ↓bindE, bindO_ok, bindO_ex, bindO_none, seqO_nx, seqO_rt, seqO_rn, seqO_bk, seqO_ct, seqO_ex, seqO_none, ↓retE, ↓failE, ↓ifE, ↓andE, ↓andK_t, ↓andK_f, ↓orE, ↓orK_t, ↓orK_f, ↓andBE, ↓andBK_t, ↓andBK_f, ↓orBE, ↓orBK_t, ↓orBK_f, ↓chE, ↓chK_t, ↓chK_f, ifO_t, ifO_f, ↓mVa, ↓mFz, ↓mNm, ↓mFrz, ↓mOp2, ↓mOp1, ↓f2E, ↓f1E, ↓fsE, ansO_some, ansO_none, rdAll, Hd.rd, D.flat, ↓mCons, ↓mCall, ↓mTup, ↓mLst, ↓mFrzs, dBool, dadd, dsub, dgt, dMax2, dMin2, ↓mSet, ↓mSetN, ↓mSetIx, mKindN, isKindN, mWr, beq_self_eq_true, Sl.cell, Sl.put, ↓mFrzM, argDs, argD, apartB, putMu, ↓mCallF, ↓mCallN, Hd.isNm, nmu, List.cons_append, List.nil_append, List.length_cons, List.length_nil, List.replicate_succ, List.replicate_zero, List.getElem?_cons_zero, List.getElem?_cons_succ, List.set_cons_zero, List.set_cons_succ, List.any_nil, List.any_cons, Nat.reduceAdd, Nat.reduceSub, Nat.reduceBEq, if_true, if_false, Bool.false_eq_true, ↓reduceIte, Option.bind_some, Option.map_some, Bool.or_self, Bool.false_or, Bool.or_false, Bool.true_or, Bool.or_true, List.contains_nil, List.contains_cons, Bool.and_self, Bool.not_false, Bool.not_true, Bool.true_and, Bool.and_true, Bool.false_and, decide_true, decide_false, lendOut, wipeG, f2, strD']
        · simp (config := { decide := false }) only [↓runDef, gOf, slotOf, endMs, ↓seqE, ↓bindE, bindO_ok, bindO_ex, bindO_none, seqO_nx, seqO_rt, seqO_rn, seqO_bk, seqO_ct, seqO_ex, seqO_none, ↓retE, ↓failE, ↓ifE, ↓andE, ↓andK_t, ↓andK_f, ↓orE, ↓orK_t, ↓orK_f, ↓andBE, ↓andBK_t, ↓andBK_f, ↓orBE, ↓orBK_t, ↓orBK_f, ↓chE, ↓chK_t, ↓chK_f, ifO_t, ifO_f, ↓mVa, ↓mFz, ↓mNm, ↓mFrz, ↓mOp2, ↓mOp1, ↓f2E, ↓f1E, ↓fsE, ansO_some, ansO_none, rdAll, Hd.rd, D.flat, ↓mCons, ↓mCall, ↓mTup, ↓mLst, ↓mFrzs, dBool, dadd, dsub, dgt, dMax2, dMin2, ↓mSet, ↓mSetN, ↓mSetIx, mKindN, isKindN, mWr, beq_self_eq_true, Sl.cell, Sl.put, ↓mFrzM, argDs, argD, apartB, putMu, ↓mCallF, ↓mCallN, Hd.isNm, nmu, List.cons_append, List.nil_append, List.length_cons, List.length_nil, List.replicate_succ, List.replicate_zero, List.getElem?_cons_zero, List.getElem?_cons_succ, List.set_cons_zero, List.set_cons_succ, List.any_nil, List.any_cons, Nat.reduceAdd, Nat.reduceSub, Nat.reduceBEq, if_true, if_false, Bool.false_eq_true, ↓reduceIte, Option.bind_some, Option.map_some, Bool.or_self, Bool.false_or, Bool.or_false, Bool.true_or, Bool.or_true, List.contains_nil, List.contains_cons, Bool.and_self, Bool.not_false, Bool.not_true, Bool.true_and, Bool.and_true, Bool.false_and, decide_true, decide_false, lendOut, wipeG, f3, strD']
      exact this
    have hj : fJoin (.str " ") [.lst ([r.k, num r.l, num r.r, num r.o].map .str)] = some (.str r.line) := by
      simp only [fJoin, strs_of]
      rw [if_pos, line_join]
      have := num_len ok.l0 (by have := ok.l1; omega)
      have := num_len ok.r0 (by have := ok.r1; omega)
      have := num_len (i := r.o) (by have := ok.o0; omega) (by have := ok.o1; omega)
      have := kind_len ok.hk
      simp only [List.map_cons, List.map_nil, List.sum_cons, List.sum_nil, List.length_cons, List.length_nil, show (" " : Str).length = 1 from rfl]
      omega
    have ha : dAdd (.str r.line) (.str "\n") = some (.str r.ln) := if_pos (by have z1 : ("\n" : Str).length = 1 := rfl; omega)
    unfold e_x_law_text_3
    simp (config := { decide := false }) only [↓runDef, gOf, slotOf, endMs, ↓seqE, ↓bindE, bindO_ok, bindO_ex, bindO_none, seqO_nx, seqO_rt, seqO_rn, seqO_bk, seqO_ct, seqO_ex, seqO_none, ↓retE, ↓failE, ↓ifE, ↓andE, ↓andK_t, ↓andK_f, ↓orE, ↓orK_t, ↓orK_f, ↓andBE, ↓andBK_t, ↓andBK_f, ↓orBE, ↓orBK_t, ↓orBK_f, ↓chE, ↓chK_t, ↓chK_f, ifO_t, ifO_f, ↓mVa, ↓mFz, ↓mNm, ↓mFrz, ↓mOp2, ↓mOp1, ↓f2E, ↓f1E, ↓fsE, ansO_some, ansO_none, rdAll, Hd.rd, D.flat, ↓mCons, ↓mCall, ↓mTup, ↓mLst, ↓mFrzs, dBool, dadd, dsub, dgt, dMax2, dMin2, ↓mSet, ↓mSetN, ↓mSetIx, mKindN, isKindN, mWr, beq_self_eq_true, Sl.cell, Sl.put, ↓mFrzM, argDs, argD, apartB, putMu, ↓mCallF, ↓mCallN, Hd.isNm, nmu, List.cons_append, List.nil_append, List.length_cons, List.length_nil, List.replicate_succ, List.replicate_zero, List.getElem?_cons_zero, List.getElem?_cons_succ, List.set_cons_zero, List.set_cons_succ, List.any_nil, List.any_cons, Nat.reduceAdd, Nat.reduceSub, Nat.reduceBEq, if_true, if_false, Bool.false_eq_true, ↓reduceIte, Option.bind_some, Option.map_some, Bool.or_self, Bool.false_or, Bool.or_false, Bool.true_or, Bool.or_true, List.contains_nil, List.contains_cons, Bool.and_self, Bool.not_false, Bool.not_true, Bool.true_and, Bool.and_true, Bool.false_and, decide_true, decide_false, lendOut, wipeG, mMtK, mKind, isKind, hw, hj, ha]
  have e : ((srt rs).map fun r => D.str r.ln) = ((srt rs).map Row.ln).map D.str := by rw [List.map_map]; rfl
  rw [e] at hc
  unfold f_x_law_text m_x_law_text
  simp (config := { decide := false }) only [↓runDef, gOf, slotOf, endMs, ↓seqE, ↓bindE, bindO_ok, bindO_ex, bindO_none, seqO_nx, seqO_rt, seqO_rn, seqO_bk, seqO_ct, seqO_ex, seqO_none, ↓retE, ↓failE, ↓ifE, ↓andE, ↓andK_t, ↓andK_f, ↓orE, ↓orK_t, ↓orK_f, ↓andBE, ↓andBK_t, ↓andBK_f, ↓orBE, ↓orBK_t, ↓orBK_f, ↓chE, ↓chK_t, ↓chK_f, ifO_t, ifO_f, ↓mVa, ↓mFz, ↓mNm, ↓mFrz, ↓mOp2, ↓mOp1, ↓f2E, ↓f1E, ↓fsE, ansO_some, ansO_none, rdAll, Hd.rd, D.flat, ↓mCons, ↓mCall, ↓mTup, ↓mLst, ↓mFrzs, dBool, dadd, dsub, dgt, dMax2, dMin2, ↓mSet, ↓mSetN, ↓mSetIx, mKindN, isKindN, mWr, beq_self_eq_true, Sl.cell, Sl.put, ↓mFrzM, argDs, argD, apartB, putMu, ↓mCallF, ↓mCallN, Hd.isNm, nmu, List.cons_append, List.nil_append, List.length_cons, List.length_nil, List.replicate_succ, List.replicate_zero, List.getElem?_cons_zero, List.getElem?_cons_succ, List.set_cons_zero, List.set_cons_succ, List.any_nil, List.any_cons, Nat.reduceAdd, Nat.reduceSub, Nat.reduceBEq, if_true, if_false, Bool.false_eq_true, ↓reduceIte, Option.bind_some, Option.map_some, Bool.or_self, Bool.false_or, Bool.or_false, Bool.true_or, Bool.or_true, List.contains_nil, List.contains_cons, Bool.and_self, Bool.not_false, Bool.not_true, Bool.true_and, Bool.and_true, Bool.false_and, decide_true, decide_false, mMtK, mKind, isKind, hc, join0 hg]
theorem ltext_ok {rs : List Row} (h : Good rs) : f_x_law_text [.lst (rs.map Row.d)] = some (.ret (.str (text (srt rs))) []) := ltext_seq (.inl rfl) h
end Cq.Sh

set_option Elab.async false
set_option linter.all false
set_option maxRecDepth 100000
set_option maxHeartbeats 1000000
namespace Cq.Sh
open PySem PySem.Spec PyProof.Rows L2 Cq
theorem ends_app (x y : Str) : Txt.endswith (x ++ y) y = true := by
  unfold Txt.endswith
  have l := len_app x y
  rw [StrLaws.subAt_eq]
  have e : (x ++ y).length - y.length = (TL.tl x).length := by rw [l, ← TL.len_tl]; omega
  have e2 : (x ++ y).cps.toList = TL.tl x ++ TL.tl y := TL.tl_append x y
  rw [e, e2, List.drop_left, show y.length = (TL.tl y).length from TL.len_tl y, List.take_length]
  rw [Bool.and_eq_true, decide_eq_true_eq, beq_iff_eq]
  have := TL.len_tl y
  exact ⟨by omega, rfl⟩
theorem joinL_app : ∀ (as : List Str), TL.tl (Txt.join "" (as.map fun a => a ++ ("\n" : Str))) = TL.tl (Txt.join "\n" (as ++ [("" : Str)]))
  | [] => rfl
  | a :: as => by
    have ih := joinL_app as
    rw [TL.join_eq, TL.join_eq] at ih ⊢
    have e1 : TL.tl (Str.join "" ((a :: as).map fun a => a ++ ("\n" : Str))) = TL.tl a ++ TL.tl "\n" ++ TL.tl (Str.join "" (as.map fun a => a ++ ("\n" : Str))) := by
      cases as with
      | nil => simp only [List.map_cons, List.map_nil, Str.join, TL.tl_append]; rw [show TL.tl Str.empty = [] from rfl, List.append_nil]
      | cons b bs => simp only [List.map_cons, Str.join, TL.tl_append]; rw [show TL.tl ("" : Str) = [] from rfl, List.append_nil]
    have e2 : TL.tl (Str.join "\n" ((a :: as) ++ [("" : Str)])) = TL.tl a ++ TL.tl "\n" ++ TL.tl (Str.join "\n" (as ++ [("" : Str)])) := by
      cases as with
      | nil => simp only [List.cons_append, List.nil_append, Str.join, TL.tl_append]
      | cons b bs => simp only [List.cons_append, Str.join, TL.tl_append]
    rw [e1, e2, ih]
theorem text_split_form (rs : List Row) : text rs = Txt.join "\n" (rs.map Row.line ++ [("" : Str)]) := by
  refine TL.ext_tl ?_
  have := joinL_app (rs.map Row.line)
  rw [List.map_map] at this
  exact this
theorem text_cons (rs : List Row) (h : rs ≠ []) : ∃ x : Str, text rs = x ++ ("\n" : Str) := by
  have e : rs = rs.dropLast ++ [rs.getLast h] := (List.dropLast_concat_getLast h).symm
  refine ⟨Txt.join "" (rs.dropLast.map Row.ln) ++ (rs.getLast h).line, ?_⟩
  refine TL.ext_tl ?_
  have j : ∀ (as : List Str) (b : Str), TL.tl (Txt.join "" (as ++ [b])) = TL.tl (Txt.join "" as) ++ TL.tl b := by
    intro as b
    rw [TL.join_eq, TL.join_eq]
    induction as with
    | nil => rfl
    | cons a as ih =>
      cases as with
      | nil => simp only [List.cons_append, List.nil_append, Str.join, TL.tl_append]; rw [show TL.tl ("" : Str) = [] from rfl, List.append_nil]
      | cons c cs =>
        simp only [List.cons_append, Str.join, TL.tl_append] at ih ⊢
        rw [ih]
        simp only [List.append_assoc]
  conv => lhs; rw [e]
  unfold text
  rw [List.map_append, List.map_cons, List.map_nil, j]
  simp only [Row.ln, TL.tl_append, List.append_assoc]
theorem kind_tl {x : Str} (h : x ∈ kinds) : ∃ k, TL.tl x = [k] ∧ 65 ≤ k ∧ k ≤ 67 := by
  simp only [kinds, List.mem_cons, List.not_mem_nil, or_false] at h
  rcases h with rfl | rfl | rfl
  · exact ⟨65, by decide +kernel, by decide, by decide⟩
  · exact ⟨66, by decide +kernel, by decide, by decide⟩
  · exact ⟨67, by decide +kernel, by decide, by decide⟩
theorem num_free {i : Int} (h : 0 ≤ i) {s : Nat} (hs : s < 48 ∨ 57 < s) : s ∉ TL.tl (num i) := by rw [num_nat h]; exact TL.numL_free hs
theorem kind_free {x : Str} (h : x ∈ kinds) {s : Nat} (hs : s < 65) : s ∉ TL.tl x := by
  obtain ⟨k, e, h1, h2⟩ := kind_tl h
  rw [e]
  simp
  omega
theorem line_free {a : Row} (h : a.ok) : (10 : Nat) ∉ TL.tl a.line := by
  unfold Row.line
  simp only [TL.tl_append, List.mem_append, not_or]
  have b : (10 : Nat) ∉ TL.tl " " := by decide +kernel
  exact ⟨⟨⟨⟨⟨⟨kind_free h.hk (by decide), b⟩, num_free h.l0 (by decide)⟩, b⟩, num_free h.r0 (by decide)⟩, b⟩, num_free (by have := h.o0; omega) (by decide)⟩
theorem word_ok {i : Int} (h : 0 ≤ i) (h1 : i < 10 ^ 5) : f_word_number [.str (num i)] = some (.ret (.int i) []) := by
  have l1 := num_len h h1
  have l2 := num_pos h
  have hl : dLen [.str (num i)] = some (.int (num i).length) := by simp only [dLen]; rw [if_pos (by omega)]
  have c1 : decide ((1 : Int) ≤ (num i).length) = true := by simp; omega
  have c2 : decide (((num i).length : Int) ≤ 5) = true := by simp; omega
  have hc : mLc (some 0) (mItN 0) [1] (tgNm 1) (M.ret true) e_word_number_1 [.im (.str (num i)), .un] = some (.ok (.lst ((TL.tl (num i)).map fun _ => .bl true)) [.im (.str (num i)), .un]) := by
    refine lc_map (fun c => .str ⟨#[c]⟩) (fun _ => .bl true) rfl rfl (by rw [← TL.len_tl]; omega) rfl rfl fun c hc => ?_
    refine ⟨_, rfl, ?_, rfl⟩
    have dg : 48 ≤ c ∧ c ≤ 57 := by rw [num_nat h] at hc; exact TL.numL_digits _ c hc
    have e : dIn (.str ⟨#[c]⟩) (.str "0123456789") = some (.bl true) := by
      have : c = 48 ∨ c = 49 ∨ c = 50 ∨ c = 51 ∨ c = 52 ∨ c = 53 ∨ c = 54 ∨ c = 55 ∨ c = 56 ∨ c = 57 := by omega
      rcases this with rfl | rfl | rfl | rfl | rfl | rfl | rfl | rfl | rfl | rfl <;> rfl
    unfold e_word_number_1
    simp (config := { decide := false }) only [↓runDef, gOf, slotOf, endMs, ↓seqE, ↓bindE, bindO_ok, bindO_ex, bindO_none, seqO_nx, seqO_rt, seqO_rn, seqO_bk, seqO_ct, seqO_ex, seqO_none, ↓retE, ↓failE, ↓ifE, ↓andE, ↓andK_t, ↓andK_f, ↓orE, ↓orK_t, ↓orK_f, ↓andBE, ↓andBK_t, ↓andBK_f, ↓orBE, ↓orBK_t, ↓orBK_f, ↓chE, ↓chK_t, ↓chK_f, ifO_t, ifO_f, ↓mVa, ↓mFz, ↓mNm, ↓mFrz, ↓mOp2, ↓mOp1, ↓f2E, ↓f1E, ↓fsE, ansO_some, ansO_none, rdAll, Hd.rd, D.flat, ↓mCons, ↓mCall, ↓mTup, ↓mLst, ↓mFrzs, dBool, dadd, dsub, dgt, dMax2, dMin2, ↓mSet, ↓mSetN, ↓mSetIx, mKindN, isKindN, mWr, beq_self_eq_true, Sl.cell, Sl.put, ↓mFrzM, argDs, argD, apartB, putMu, ↓mCallF, ↓mCallN, Hd.isNm, nmu, List.cons_append, List.nil_append, List.length_cons, List.length_nil, List.replicate_succ, List.replicate_zero, List.getElem?_cons_zero, List.getElem?_cons_succ, List.set_cons_zero, List.set_cons_succ, List.any_nil, List.any_cons, Nat.reduceAdd, Nat.reduceSub, Nat.reduceBEq, if_true, if_false, Bool.false_eq_true, ↓reduceIte, Option.bind_some, Option.map_some, Bool.or_self, Bool.false_or, Bool.or_false, Bool.true_or, Bool.or_true, List.contains_nil, List.contains_cons, Bool.and_self, Bool.not_false, Bool.not_true, Bool.true_and, Bool.and_true, Bool.false_and, decide_true, decide_false, lendOut, wipeG, e]
  have ha : dAll [.lst ((TL.tl (num i)).map fun _ => D.bl true)] = some (.bl true) := by rw [all_map (fun _ => true)]; simp
  have hi : dInt [.str (num i)] = some (.int i) := by
    obtain ⟨n, rfl⟩ : ∃ n : Nat, i = n := ⟨i.toNat, by omega⟩
    have e : intText? (num (n : Int)) = some (n : Int) := TL.int_num (by have := TL.numL_len (n := n) (k := 5) (by decide) (by omega); omega)
    simp only [dInt]
    rw [if_pos (by omega), e]
    rfl
  unfold f_word_number m_word_number
  simp (config := { decide := false }) only [↓runDef, gOf, slotOf, endMs, ↓seqE, ↓bindE, bindO_ok, bindO_ex, bindO_none, seqO_nx, seqO_rt, seqO_rn, seqO_bk, seqO_ct, seqO_ex, seqO_none, ↓retE, ↓failE, ↓ifE, ↓andE, ↓andK_t, ↓andK_f, ↓orE, ↓orK_t, ↓orK_f, ↓andBE, ↓andBK_t, ↓andBK_f, ↓orBE, ↓orBK_t, ↓orBK_f, ↓chE, ↓chK_t, ↓chK_f, ifO_t, ifO_f, ↓mVa, ↓mFz, ↓mNm, ↓mFrz, ↓mOp2, ↓mOp1, ↓f2E, ↓f1E, ↓fsE, ansO_some, ansO_none, rdAll, Hd.rd, D.flat, ↓mCons, ↓mCall, ↓mTup, ↓mLst, ↓mFrzs, dBool, dadd, dsub, dgt, dMax2, dMin2, ↓mSet, ↓mSetN, ↓mSetIx, mKindN, isKindN, mWr, beq_self_eq_true, Sl.cell, Sl.put, ↓mFrzM, argDs, argD, apartB, putMu, ↓mCallF, ↓mCallN, Hd.isNm, nmu, List.cons_append, List.nil_append, List.length_cons, List.length_nil, List.replicate_succ, List.replicate_zero, List.getElem?_cons_zero, List.getElem?_cons_succ, List.set_cons_zero, List.set_cons_succ, List.any_nil, List.any_cons, Nat.reduceAdd, Nat.reduceSub, Nat.reduceBEq, if_true, if_false, Bool.false_eq_true, ↓reduceIte, Option.bind_some, Option.map_some, Bool.or_self, Bool.false_or, Bool.or_false, Bool.true_or, Bool.or_true, List.contains_nil, List.contains_cons, Bool.and_self, Bool.not_false, Bool.not_true, Bool.true_and, Bool.and_true, Bool.false_and, decide_true, decide_false, hl, c1, c2, hc, ha, hi]
theorem split_sp (a : Row) (h : a.ok) : fSplit (.str a.line) [.str " "] = some (.lst ([a.k, num a.l, num a.r, num a.o].map .str)) := by
  have e : Txt.split (Txt.join " " [a.k, num a.l, num a.r, num a.o]) " " = [a.k, num a.l, num a.r, num a.o] := by
    refine TL.split_join (y := " ") (s := 32) (S := []) rfl (by decide +kernel) (by simp) fun p hp => ?_
    simp only [List.mem_cons, List.not_mem_nil, or_false] at hp
    rcases hp with rfl | rfl | rfl | rfl
    · exact kind_free h.hk (by decide)
    · exact num_free h.l0 (by decide)
    · exact num_free h.r0 (by decide)
    · exact num_free (by have := h.o0; omega) (by decide)
  rw [line_join] at e
  simp only [fSplit]
  rw [if_pos ⟨by decide, by have := line_len h; omega⟩, e]
theorem rol_ok {a : Row} (h : a.ok) : f_row_of_line [.str a.line] = some (.ret a.d []) := by
  have hs := split_sp a h
  have x0 : dIx (.lst ([a.k, num a.l, num a.r, num a.o].map .str)) (.int 0) = some (.str a.k) := rfl
  have c1 : dSl (.lst ([a.k, num a.l, num a.r, num a.o].map .str)) (some 1) none = some (.lst ([num a.l, num a.r, num a.o].map .str)) := rfl
  have hi : i_row_of_line_1 [.im (.str a.line), .im (.lst ([a.k, num a.l, num a.r, num a.o].map .str)), .un] = some (.ok ([num a.l, num a.r, num a.o].map .str) [.im (.str a.line), .im (.lst ([a.k, num a.l, num a.r, num a.o].map .str)), .un]) := by
    unfold i_row_of_line_1 mIt
    simp (config := { decide := false }) only [↓runDef, gOf, slotOf, endMs, ↓seqE, ↓bindE, bindO_ok, bindO_ex, bindO_none, seqO_nx, seqO_rt, seqO_rn, seqO_bk, seqO_ct, seqO_ex, seqO_none, ↓retE, ↓failE, ↓ifE, ↓andE, ↓andK_t, ↓andK_f, ↓orE, ↓orK_t, ↓orK_f, ↓andBE, ↓andBK_t, ↓andBK_f, ↓orBE, ↓orBK_t, ↓orBK_f, ↓chE, ↓chK_t, ↓chK_f, ifO_t, ifO_f, ↓mVa, ↓mFz, ↓mNm, ↓mFrz, ↓mOp2, ↓mOp1, ↓f2E, ↓f1E, ↓fsE, ansO_some, ansO_none, rdAll, Hd.rd, D.flat, ↓mCons, ↓mCall, ↓mTup, ↓mLst, ↓mFrzs, dBool, dadd, dsub, dgt, dMax2, dMin2, ↓mSet, ↓mSetN, ↓mSetIx, mKindN, isKindN, mWr, beq_self_eq_true, Sl.cell, Sl.put, ↓mFrzM, argDs, argD, apartB, putMu, ↓mCallF, ↓mCallN, Hd.isNm, nmu, List.cons_append, List.nil_append, List.length_cons, List.length_nil, List.replicate_succ, List.replicate_zero, List.getElem?_cons_zero, List.getElem?_cons_succ, List.set_cons_zero, List.set_cons_succ, List.any_nil, List.any_cons, Nat.reduceAdd, Nat.reduceSub, Nat.reduceBEq, if_true, if_false, Bool.false_eq_true, ↓reduceIte, Option.bind_some, Option.map_some, Bool.or_self, Bool.false_or, Bool.or_false, Bool.true_or, Bool.or_true, List.contains_nil, List.contains_cons, Bool.and_self, Bool.not_false, Bool.not_true, Bool.true_and, Bool.and_true, Bool.false_and, decide_true, decide_false, mSl, dSome, c1, itD]
  have w1 := word_ok h.l0 (by have := h.l1; omega)
  have w2 := word_ok h.r0 (by have := h.r1; omega)
  have w3 := word_ok (i := a.o) (by have := h.o0; omega) (by have := h.o1; omega)
  have hc : mLc none i_row_of_line_1 [2] (tgNm 2) (M.ret true) e_row_of_line_2 [.im (.str a.line), .im (.lst ([a.k, num a.l, num a.r, num a.o].map .str)), .un] = some (.ok (.lst [.int a.l, .int a.r, .int a.o]) [.im (.str a.line), .im (.lst ([a.k, num a.l, num a.r, num a.o].map .str)), .un]) := by
    have := lc_map (l := none) (xs := [a.l, a.r, a.o]) (T := tgNm 2) (vs := [2]) (e := e_row_of_line_2) (fun i => .str (num i)) (fun i => .int i) hi rfl (Nat.le_of_lt_succ (by simp)) rfl rfl fun i hi => by
      refine ⟨_, rfl, ?_, rfl⟩
      unfold e_row_of_line_2
      simp only [List.mem_cons, List.not_mem_nil, or_false] at hi
      rcases hi with rfl | rfl | rfl
      · simp (config := { decide := false }) only [↓runDef, gOf, slotOf, endMs, ↓seqE, ↓bindE, bindO_ok, bindO_ex, bindO_none, seqO_nx, seqO_rt, seqO_rn, seqO_bk, seqO_ct, seqO_ex, seqO_none, ↓retE, ↓failE, ↓ifE, ↓andE, ↓andK_t, ↓andK_f, ↓orE, ↓orK_t, ↓orK_f, ↓andBE, ↓andBK_t, ↓andBK_f, ↓orBE, ↓orBK_t, ↓orBK_f, ↓chE, ↓chK_t, ↓chK_f, ifO_t, ifO_f, ↓mVa, ↓mFz, ↓mNm, ↓mFrz, ↓mOp2, ↓mOp1, ↓f2E, ↓f1E, ↓fsE, ansO_some, ansO_none, rdAll, Hd.rd, D.flat, ↓mCons, ↓mCall, ↓mTup, ↓mLst, ↓mFrzs, dBool, dadd, dsub, dgt, dMax2, dMin2, ↓mSet, ↓mSetN, ↓mSetIx, mKindN, isKindN, mWr, beq_self_eq_true, Sl.cell, Sl.put, ↓mFrzM, argDs, argD, apartB, putMu, ↓mCallF, ↓mCallN, Hd.isNm, nmu, List.cons_append, List.nil_append, List.length_cons, List.length_nil, List.replicate_succ, List.replicate_zero, List.getElem?_cons_zero, List.getElem?_cons_succ, List.set_cons_zero, List.set_cons_succ, List.any_nil, List.any_cons, Nat.reduceAdd, Nat.reduceSub, Nat.reduceBEq, if_true, if_false, Bool.false_eq_true, ↓reduceIte, Option.bind_some, Option.map_some, Bool.or_self, Bool.false_or, Bool.or_false, Bool.true_or, Bool.or_true, List.contains_nil, List.contains_cons, Bool.and_self, Bool.not_false, Bool.not_true, Bool.true_and, Bool.and_true, Bool.false_and, decide_true, decide_false, lendOut, wipeG, w1]
      · simp (config := { decide := false }) only [↓runDef, gOf, slotOf, endMs, ↓seqE, ↓bindE, bindO_ok, bindO_ex, bindO_none, seqO_nx, seqO_rt, seqO_rn, seqO_bk, seqO_ct, seqO_ex, seqO_none, ↓retE, ↓failE, ↓ifE, ↓andE, ↓andK_t, ↓andK_f, ↓orE, ↓orK_t, ↓orK_f, ↓andBE, ↓andBK_t, ↓andBK_f, ↓orBE, ↓orBK_t, ↓orBK_f, ↓chE, ↓chK_t, ↓chK_f, ifO_t, ifO_f, ↓mVa, ↓mFz, ↓mNm, ↓mFrz, ↓mOp2, ↓mOp1, ↓f2E, ↓f1E, ↓fsE, ansO_some, ansO_none, rdAll, Hd.rd, D.flat, ↓mCons, ↓mCall, ↓mTup, ↓mLst, ↓mFrzs, dBool, dadd, dsub, dgt, dMax2, dMin2, ↓mSet, ↓mSetN, ↓mSetIx, mKindN, isKindN, mWr, beq_self_eq_true, Sl.cell, Sl.put, ↓mFrzM, argDs, argD, apartB, putMu, ↓mCallF, ↓mCallN, Hd.isNm, nmu, List.cons_append, List.nil_append, List.length_cons, List.length_nil, List.replicate_succ, List.replicate_zero, List.getElem?_cons_zero, List.getElem?_cons_succ, List.set_cons_zero, List.set_cons_succ, List.any_nil, List.any_cons, Nat.reduceAdd, Nat.reduceSub, Nat.reduceBEq, if_true, if_false, Bool.false_eq_true, ↓reduceIte, Option.bind_some, Option.map_some, Bool.or_self, Bool.false_or, Bool.or_false, Bool.true_or, Bool.or_true, List.contains_nil, List.contains_cons, Bool.and_self, Bool.not_false, Bool.not_true, Bool.true_and, Bool.and_true, Bool.false_and, decide_true, decide_false, lendOut, wipeG, w2]
      · simp (config := { decide := false }) only [↓runDef, gOf, slotOf, endMs, ↓seqE, ↓bindE, bindO_ok, bindO_ex, bindO_none, seqO_nx, seqO_rt, seqO_rn, seqO_bk, seqO_ct, seqO_ex, seqO_none, ↓retE, ↓failE, ↓ifE, ↓andE, ↓andK_t, ↓andK_f, ↓orE, ↓orK_t, ↓orK_f, ↓andBE, ↓andBK_t, ↓andBK_f, ↓orBE, ↓orBK_t, ↓orBK_f, ↓chE, ↓chK_t, ↓chK_f, ifO_t, ifO_f, ↓mVa, ↓mFz, ↓mNm, ↓mFrz, ↓mOp2, ↓mOp1, ↓f2E, ↓f1E, ↓fsE, ansO_some, ansO_none, rdAll, Hd.rd, D.flat, ↓mCons, ↓mCall, ↓mTup, ↓mLst, ↓mFrzs, dBool, dadd, dsub, dgt, dMax2, dMin2, ↓mSet, ↓mSetN, ↓mSetIx, mKindN, isKindN, mWr, beq_self_eq_true, Sl.cell, Sl.put, ↓mFrzM, argDs, argD, apartB, putMu, ↓mCallF, ↓mCallN, Hd.isNm, nmu, List.cons_append, List.nil_append, List.length_cons, List.length_nil, List.replicate_succ, List.replicate_zero, List.getElem?_cons_zero, List.getElem?_cons_succ, List.set_cons_zero, List.set_cons_succ, List.any_nil, List.any_cons, Nat.reduceAdd, Nat.reduceSub, Nat.reduceBEq, if_true, if_false, Bool.false_eq_true, ↓reduceIte, Option.bind_some, Option.map_some, Bool.or_self, Bool.false_or, Bool.or_false, Bool.true_or, Bool.or_true, List.contains_nil, List.contains_cons, Bool.and_self, Bool.not_false, Bool.not_true, Bool.true_and, Bool.and_true, Bool.false_and, decide_true, decide_false, lendOut, wipeG, w3]
    exact this
  have ht : dTuple [.lst [.int a.l, .int a.r, .int a.o]] = some (.tup [.int a.l, .int a.r, .int a.o]) := rfl
  have ha : dAdd (.tup [.str a.k]) (.tup [.int a.l, .int a.r, .int a.o]) = some a.d := rfl
  unfold f_row_of_line m_row_of_line
  simp (config := { decide := false }) only [↓runDef, gOf, slotOf, endMs, ↓seqE, ↓bindE, bindO_ok, bindO_ex, bindO_none, seqO_nx, seqO_rt, seqO_rn, seqO_bk, seqO_ct, seqO_ex, seqO_none, ↓retE, ↓failE, ↓ifE, ↓andE, ↓andK_t, ↓andK_f, ↓orE, ↓orK_t, ↓orK_f, ↓andBE, ↓andBK_t, ↓andBK_f, ↓orBE, ↓orBK_t, ↓orBK_f, ↓chE, ↓chK_t, ↓chK_f, ifO_t, ifO_f, ↓mVa, ↓mFz, ↓mNm, ↓mFrz, ↓mOp2, ↓mOp1, ↓f2E, ↓f1E, ↓fsE, ansO_some, ansO_none, rdAll, Hd.rd, D.flat, ↓mCons, ↓mCall, ↓mTup, ↓mLst, ↓mFrzs, dBool, dadd, dsub, dgt, dMax2, dMin2, ↓mSet, ↓mSetN, ↓mSetIx, mKindN, isKindN, mWr, beq_self_eq_true, Sl.cell, Sl.put, ↓mFrzM, argDs, argD, apartB, putMu, ↓mCallF, ↓mCallN, Hd.isNm, nmu, List.cons_append, List.nil_append, List.length_cons, List.length_nil, List.replicate_succ, List.replicate_zero, List.getElem?_cons_zero, List.getElem?_cons_succ, List.set_cons_zero, List.set_cons_succ, List.any_nil, List.any_cons, Nat.reduceAdd, Nat.reduceSub, Nat.reduceBEq, if_true, if_false, Bool.false_eq_true, ↓reduceIte, Option.bind_some, Option.map_some, Bool.or_self, Bool.false_or, Bool.or_false, Bool.true_or, Bool.or_true, List.contains_nil, List.contains_cons, Bool.and_self, Bool.not_false, Bool.not_true, Bool.true_and, Bool.and_true, Bool.false_and, decide_true, decide_false, mMtK, mKind, isKind, hs, x0, lit1, hc, ht, ha]
theorem text_len {rs : List Row} (h : Good rs) : (text rs).length ≤ 240 := by
  unfold text
  rw [TL.join_eq]
  refine Nat.le_trans (StrLaws.join_length_le "" _) ?_
  have e : ((rs.map Row.ln).map (·.length)).sum ≤ rs.length * 20 := by
    rw [List.map_map]
    refine sum_le fun r hr => ?_
    have := line_len (h.ok r hr)
    simp only [Function.comp, Row.ln, len_app, show ("\n" : Str).length = 1 from rfl]
    omega
  have := h.len
  have z : ("" : Str).length = 0 := rfl
  rw [z]
  omega
theorem split_nl {rs : List Row} (h : Good rs) : fSplit (.str (text rs)) [.str "\n"] = some (.lst ((rs.map Row.line ++ [("" : Str)]).map .str)) := by
  have e : Txt.split (Txt.join "\n" (rs.map Row.line ++ [("" : Str)])) "\n" = rs.map Row.line ++ [("" : Str)] := by
    refine TL.split_join (y := "\n") (s := 10) (S := []) rfl (by decide +kernel) (by simp) fun p hp => ?_
    rcases List.mem_append.mp hp with hp | hp
    · obtain ⟨r, hr, rfl⟩ := List.mem_map.mp hp
      exact line_free (h.ok r hr)
    · simp only [List.mem_cons, List.not_mem_nil, or_false] at hp
      subst hp
      decide +kernel
  rw [← text_split_form] at e
  simp only [fSplit]
  rw [if_pos ⟨by decide, by have := text_len h; omega⟩, e]
theorem cut_last (xs : List D) (x : D) : dSl (.lst (xs ++ [x])) none (some (-1)) = some (.lst xs) := by
  have e : HT.sIx (xs ++ [x]).length (xs ++ [x]).length (some (-1)) = xs.length := by
    unfold HT.sIx
    simp
    omega
  have z : HT.sIx (xs ++ [x]).length 0 none = 0 := rfl
  simp only [dSl, cutD, e, z, List.drop_zero, Nat.sub_zero]
  simp
theorem tread_ok {rs : List Row} (h : Good rs) (hs : srt rs = rs) : f_Table_read [.glo 0, .str (text rs)] = some (.ret (tb rs) []) := by
  have t1 : (dNe (.str (text rs)) (.str "") = some (.bl false)) ∨ (dNe (.str (text rs)) (.str "") = some (.bl true) ∧ fEndswith (.str (text rs)) [.str "\n"] = some (.bl true)) := by
    by_cases e : text rs = ""
    · left; simp [dNe, e]
    · right
      have ne : rs ≠ [] := fun z => e (by rw [z]; rfl)
      obtain ⟨x, hx⟩ := text_cons rs ne
      refine ⟨by simp [dNe, e], ?_⟩
      simp only [fEndswith, hx, ends_app]
  have s1 := split_nl h
  rw [List.map_append, List.map_cons, List.map_nil] at s1
  have ng : dNeg (.int 1) = some (.int (-1)) := rfl
  have hi : i_Table_read_1 [.im (.glo 0), .im (.str (text rs)), .un, .un, .un] = some (.ok ((rs.map Row.line).map .str) [.im (.glo 0), .im (.str (text rs)), .un, .un, .un]) := by
    unfold i_Table_read_1 mIt
    simp (config := { decide := false }) only [↓runDef, gOf, slotOf, endMs, ↓seqE, ↓bindE, bindO_ok, bindO_ex, bindO_none, seqO_nx, seqO_rt, seqO_rn, seqO_bk, seqO_ct, seqO_ex, seqO_none, ↓retE, ↓failE, ↓ifE, ↓andE, ↓andK_t, ↓andK_f, ↓orE, ↓orK_t, ↓orK_f, ↓andBE, ↓andBK_t, ↓andBK_f, ↓orBE, ↓orBK_t, ↓orBK_f, ↓chE, ↓chK_t, ↓chK_f, ifO_t, ifO_f, ↓mVa, ↓mFz, ↓mNm, ↓mFrz, ↓mOp2, ↓mOp1, ↓f2E, ↓f1E, ↓fsE, ansO_some, ansO_none, rdAll, Hd.rd, D.flat, ↓mCons, ↓mCall, ↓mTup, ↓mLst, ↓mFrzs, dBool, dadd, dsub, dgt, dMax2, dMin2, ↓mSet, ↓mSetN, ↓mSetIx, mKindN, isKindN, mWr, beq_self_eq_true, Sl.cell, Sl.put, ↓mFrzM, argDs, argD, apartB, putMu, ↓mCallF, ↓mCallN, Hd.isNm, nmu, List.cons_append, List.nil_append, List.length_cons, List.length_nil, List.replicate_succ, List.replicate_zero, List.getElem?_cons_zero, List.getElem?_cons_succ, List.set_cons_zero, List.set_cons_succ, List.any_nil, List.any_cons, Nat.reduceAdd, Nat.reduceSub, Nat.reduceBEq, if_true, if_false, Bool.false_eq_true, ↓reduceIte, Option.bind_some, Option.map_some, Bool.or_self, Bool.false_or, Bool.or_false, Bool.true_or, Bool.or_true, List.contains_nil, List.contains_cons, Bool.and_self, Bool.not_false, Bool.not_true, Bool.true_and, Bool.and_true, Bool.false_and, decide_true, decide_false, mSl, mMtK, mKind, isKind, s1, ng, dSome, cut_last, itD]
  have hc : mLc none i_Table_read_1 [3] (tgNm 3) (M.ret true) e_Table_read_2 [.im (.glo 0), .im (.str (text rs)), .un, .un, .un] = some (.ok (.lst (rs.map Row.d)) [.im (.glo 0), .im (.str (text rs)), .un, .un, .un]) := by
    have := lc_map (xs := rs) (T := tgNm 3) (vs := [3]) (e := e_Table_read_2) (l := none) (it := i_Table_read_1) (g := [.im (.glo 0), .im (.str (text rs)), .un, .un, .un]) (fun r => .str r.line) Row.d (by rw [hi, List.map_map]; rfl) rfl (by have := h.len; omega) rfl rfl fun r hr => by
      refine ⟨_, rfl, ?_, rfl⟩
      unfold e_Table_read_2
      simp (config := { decide := false }) only [↓runDef, gOf, slotOf, endMs, ↓seqE, ↓bindE, bindO_ok, bindO_ex, bindO_none, seqO_nx, seqO_rt, seqO_rn, seqO_bk, seqO_ct, seqO_ex, seqO_none, ↓retE, ↓failE, ↓ifE, ↓andE, ↓andK_t, ↓andK_f, ↓orE, ↓orK_t, ↓orK_f, ↓andBE, ↓andBK_t, ↓andBK_f, ↓orBE, ↓orBK_t, ↓orBK_f, ↓chE, ↓chK_t, ↓chK_f, ifO_t, ifO_f, ↓mVa, ↓mFz, ↓mNm, ↓mFrz, ↓mOp2, ↓mOp1, ↓f2E, ↓f1E, ↓fsE, ansO_some, ansO_none, rdAll, Hd.rd, D.flat, ↓mCons, ↓mCall, ↓mTup, ↓mLst, ↓mFrzs, dBool, dadd, dsub, dgt, dMax2, dMin2, ↓mSet, ↓mSetN, ↓mSetIx, mKindN, isKindN, mWr, beq_self_eq_true, Sl.cell, Sl.put, ↓mFrzM, argDs, argD, apartB, putMu, ↓mCallF, ↓mCallN, Hd.isNm, nmu, List.cons_append, List.nil_append, List.length_cons, List.length_nil, List.replicate_succ, List.replicate_zero, List.getElem?_cons_zero, List.getElem?_cons_succ, List.set_cons_zero, List.set_cons_succ, List.any_nil, List.any_cons, Nat.reduceAdd, Nat.reduceSub, Nat.reduceBEq, if_true, if_false, Bool.false_eq_true, ↓reduceIte, Option.bind_some, Option.map_some, Bool.or_self, Bool.false_or, Bool.or_false, Bool.true_or, Bool.or_true, List.contains_nil, List.contains_cons, Bool.and_self, Bool.not_false, Bool.not_true, Bool.true_and, Bool.and_true, Bool.false_and, decide_true, decide_false, lendOut, wipeG, rol_ok (h.ok r hr)]
    exact this
  have a := good_rows (q := .lst (rs.map Row.d)) (.inl rfl) h
  have hm : ∀ g : Gm, g[2]? = some (.im (.lst (rs.map Row.d))) → mMkS 0 f_Table___init (mFz 2) g = some (.ok (tb rs) g) := fun g hg => by
    have := tmks_ok (q := .lst (rs.map Row.d)) (g := g) (m := mFz 2) (.inl rfl) h (by simp only [mFz, bindE, nmE hg (fun z => nomatch z), bindO_ok, mFrz, hg])
    rw [hs] at this
    exact this
  have hm' := hm [.im (.glo 0), .im (.str (text rs)), .im (.lst (rs.map Row.d)), .un, .un] rfl
  have c2 : ∀ {g : Gm} (i : Nat), g[i]? = some (.im (tb rs)) → mCls [0] (.nm i) g = some (.ok 0 g) := fun {g} i h => by
    simp only [mCls, Hd.ins, h]
    rfl
  have c2' := c2 (g := [.im (.glo 0), .im (.str (text rs)), .im (.lst (rs.map Row.d)), .un, .im (tb rs)]) 4 rfl
  have ne : dNe (.str (text rs)) (.str (text rs)) = some (.bl false) := by simp [dNe]
  have is : dIsi [0] .str (.str (text rs)) = some (.bl true) := rfl
  unfold f_Table_read m_Table_read
  rcases t1 with t1 | ⟨t1, t2⟩
  · simp (config := { decide := false }) only [↓runDef, gOf, slotOf, endMs, ↓seqE, ↓bindE, bindO_ok, bindO_ex, bindO_none, seqO_nx, seqO_rt, seqO_rn, seqO_bk, seqO_ct, seqO_ex, seqO_none, ↓retE, ↓failE, ↓ifE, ↓andE, ↓andK_t, ↓andK_f, ↓orE, ↓orK_t, ↓orK_f, ↓andBE, ↓andBK_t, ↓andBK_f, ↓orBE, ↓orBK_t, ↓orBK_f, ↓chE, ↓chK_t, ↓chK_f, ifO_t, ifO_f, ↓mVa, ↓mFz, ↓mNm, ↓mFrz, ↓mOp2, ↓mOp1, ↓f2E, ↓f1E, ↓fsE, ansO_some, ansO_none, rdAll, Hd.rd, D.flat, ↓mCons, ↓mCall, ↓mTup, ↓mLst, ↓mFrzs, dBool, dadd, dsub, dgt, dMax2, dMin2, ↓mSet, ↓mSetN, ↓mSetIx, mKindN, isKindN, mWr, beq_self_eq_true, Sl.cell, Sl.put, ↓mFrzM, argDs, argD, apartB, putMu, ↓mCallF, ↓mCallN, Hd.isNm, nmu, List.cons_append, List.nil_append, List.length_cons, List.length_nil, List.replicate_succ, List.replicate_zero, List.getElem?_cons_zero, List.getElem?_cons_succ, List.set_cons_zero, List.set_cons_succ, List.any_nil, List.any_cons, Nat.reduceAdd, Nat.reduceSub, Nat.reduceBEq, if_true, if_false, Bool.false_eq_true, ↓reduceIte, Option.bind_some, Option.map_some, Bool.or_self, Bool.false_or, Bool.or_false, Bool.true_or, Bool.or_true, List.contains_nil, List.contains_cons, Bool.and_self, Bool.not_false, Bool.not_true, Bool.true_and, Bool.and_true, Bool.false_and, decide_true, decide_false, mIsi, is, t1, hc, a, mGlo, hm', mMth0, c2', ttext_ok h, ne]
  · simp (config := { decide := false }) only [↓runDef, gOf, slotOf, endMs, ↓seqE, ↓bindE, bindO_ok, bindO_ex, bindO_none, seqO_nx, seqO_rt, seqO_rn, seqO_bk, seqO_ct, seqO_ex, seqO_none, ↓retE, ↓failE, ↓ifE, ↓andE, ↓andK_t, ↓andK_f, ↓orE, ↓orK_t, ↓orK_f, ↓andBE, ↓andBK_t, ↓andBK_f, ↓orBE, ↓orBK_t, ↓orBK_f, ↓chE, ↓chK_t, ↓chK_f, ifO_t, ifO_f, ↓mVa, ↓mFz, ↓mNm, ↓mFrz, ↓mOp2, ↓mOp1, ↓f2E, ↓f1E, ↓fsE, ansO_some, ansO_none, rdAll, Hd.rd, D.flat, ↓mCons, ↓mCall, ↓mTup, ↓mLst, ↓mFrzs, dBool, dadd, dsub, dgt, dMax2, dMin2, ↓mSet, ↓mSetN, ↓mSetIx, mKindN, isKindN, mWr, beq_self_eq_true, Sl.cell, Sl.put, ↓mFrzM, argDs, argD, apartB, putMu, ↓mCallF, ↓mCallN, Hd.isNm, nmu, List.cons_append, List.nil_append, List.length_cons, List.length_nil, List.replicate_succ, List.replicate_zero, List.getElem?_cons_zero, List.getElem?_cons_succ, List.set_cons_zero, List.set_cons_succ, List.any_nil, List.any_cons, Nat.reduceAdd, Nat.reduceSub, Nat.reduceBEq, if_true, if_false, Bool.false_eq_true, ↓reduceIte, Option.bind_some, Option.map_some, Bool.or_self, Bool.false_or, Bool.or_false, Bool.true_or, Bool.or_true, List.contains_nil, List.contains_cons, Bool.and_self, Bool.not_false, Bool.not_true, Bool.true_and, Bool.and_true, Bool.false_and, decide_true, decide_false, mIsi, is, t1, t2, mMtK, mKind, isKind, hc, a, mGlo, hm', mMth0, c2', ttext_ok h, ne]
end Cq.Sh

set_option Elab.async false
set_option linter.all false
set_option maxRecDepth 100000
set_option maxHeartbeats 1000000
namespace Cq.Sh
open PySem PySem.Spec PyProof.Rows L2 Cq
/-! ### drawn rows -/
def klists : List (List Str) := [["A"], ["A", "B"], ["A", "B", "C"], ["B", "C"]]
theorem klists_ok : ∀ l ∈ klists, l ≠ [] ∧ l.length ≤ 3 ∧ ∀ k ∈ l, k ∈ kinds := by decide +kernel
theorem deq_key {x y : Str × Int × Int} (hx : x.1 ∈ kinds) (hy : y.1 ∈ kinds) : dEq (kd x) (kd y) = some (.bl (decide (x = y))) := by
  show dEqP (kd x) (kd y) = _
  simp only [dEqP, kd_py]
  rw [if_pos ⟨pk_shaped hx, pk_shaped hy⟩, pk_eqv]
theorem row_lay {r : Row} (h : r.k ∈ kinds) : r.p.canLay0 = true ∧ r.p.depth ≤ 50 := by
  simp [Row.p, PyData.canLay0, PyData.canLayAll0, PyData.depth, PyData.depthAll, kind_strOk h]
theorem rows_py (rs : List Row) : (D.lst (rs.map Row.d)).py = some (.list (rs.map Row.p)) := by
  have e : pyL (rs.map Row.d) = some (rs.map Row.p) := py_map Row.d Row.p fun r _ => row_py r
  simp only [D.py, e, Option.map_some]
theorem rows_shaped {rs : List Row} (h : ∀ r ∈ rs, r.k ∈ kinds) : SeqAt.shaped (.list (rs.map Row.p)) = true := shaped_l fun p hp => by
  obtain ⟨r, hr, rfl⟩ := List.mem_map.mp hp
  exact row_lay (h r hr)
theorem nil_shaped : SeqAt.shaped (.list []) = true := shaped_l fun p hp => nomatch hp
theorem deq_nil {rs : List Row} (h : ∀ r ∈ rs, r.k ∈ kinds) : dEq (.lst (rs.map Row.d)) (.lst []) = some (.bl rs.isEmpty) := by
  show dEqP (.lst (rs.map Row.d)) (.lst []) = _
  have e : (D.lst []).py = some (.list []) := rfl
  simp only [dEqP, rows_py, e]
  rw [if_pos ⟨rows_shaped h, nil_shaped⟩]
  cases rs <;> rfl
theorem cut_row (r : Row) : dSl r.d none (some 3) = some (kd r.key) := cut3
theorem add_row (x : Str × Int × Int) (n : Int) : dAdd (kd x) (.tup [.int n]) = some (Row.mk x.1 x.2.1 x.2.2 n).d := rfl
/-! ### what is shown of tables -/
end Cq.Sh

set_option Elab.async false
set_option linter.all false
set_option maxRecDepth 100000
set_option maxHeartbeats 1000000
namespace Cq.Sh
open PySem PySem.Spec PyProof.Rows L2 Cq
def goodB (rs : List Row) : Bool := decide (rs.length ≤ 12) && (rs.all fun r => isRow r.d) && decide (rs.map Row.key).Nodup
theorem goodB_iff {rs : List Row} : goodB rs = true ↔ Good rs := by
  simp only [goodB, Bool.and_eq_true, decide_eq_true_eq, List.all_eq_true, isRow_iff]
  exact ⟨fun h => ⟨h.1.1, h.1.2, h.2⟩, fun h => ⟨⟨h.len, h.ok⟩, h.nd⟩⟩
theorem are_rows_any {q : D} {rs : List Row} (hq : Seq q (rs.map Row.d)) : f_are_rows [q] = some (.ret (.bl (goodB rs)) []) := by
  by_cases l : rs.length ≤ 12
  · cases a : rs.all fun r => isRow r.d with
    | true =>
      rw [are_rows_ok hq l fun r hr => isRow_iff.mp (List.all_eq_true.mp a r hr)]
      simp [goodB, l, a]
    | false =>
      rw [are_rows_bad hq (fun d hd => by obtain ⟨r, _, rfl⟩ := List.mem_map.mp hd; exact okT_row r) (by rw [List.all_map]; exact a)]
      simp [goodB, a]
  · rw [are_rows_long hq (by simp; omega)]
    simp [goodB, l]
def tofR (rs : List Row) : Option FR := if goodB rs = true then some (.ret (tb (srt rs)) []) else some (.exc 18 [])
theorem tof_any (rs : List Row) : f_table_of [.lst (rs.map Row.d)] = tofR rs := by
  have a := are_rows_any (q := .lst (rs.map Row.d)) (rs := rs) (.inl rfl)
  unfold f_table_of m_table_of tofR
  cases h : goodB rs with
  | true =>
    have hm : mMkS 0 f_Table___init (mFz 0) [.im (.lst (rs.map Row.d))] = some (.ok (tb (srt rs)) [.im (.lst (rs.map Row.d))]) := tmks_ok (.inl rfl) (goodB_iff.mp h) rfl
    simp (config := { decide := false }) only [↓runDef, gOf, slotOf, endMs, ↓seqE, ↓bindE, bindO_ok, bindO_ex, bindO_none, seqO_nx, seqO_rt, seqO_rn, seqO_bk, seqO_ct, seqO_ex, seqO_none, ↓retE, ↓failE, ↓ifE, ↓andE, ↓andK_t, ↓andK_f, ↓orE, ↓orK_t, ↓orK_f, ↓andBE, ↓andBK_t, ↓andBK_f, ↓orBE, ↓orBK_t, ↓orBK_f, ↓chE, ↓chK_t, ↓chK_f, ifO_t, ifO_f, ↓mVa, ↓mFz, ↓mNm, ↓mFrz, ↓mOp2, ↓mOp1, ↓f2E, ↓f1E, ↓fsE, ansO_some, ansO_none, rdAll, Hd.rd, D.flat, ↓mCons, ↓mCall, ↓mTup, ↓mLst, ↓mFrzs, dBool, dadd, dsub, dgt, dMax2, dMin2, ↓mSet, ↓mSetN, ↓mSetIx, mKindN, isKindN, mWr, beq_self_eq_true, Sl.cell, Sl.put, ↓mFrzM, argDs, argD, apartB, putMu, ↓mCallF, ↓mCallN, Hd.isNm, nmu, List.cons_append, List.nil_append, List.length_cons, List.length_nil, List.replicate_succ, List.replicate_zero, List.getElem?_cons_zero, List.getElem?_cons_succ, List.set_cons_zero, List.set_cons_succ, List.any_nil, List.any_cons, Nat.reduceAdd, Nat.reduceSub, Nat.reduceBEq, if_true, if_false, Bool.false_eq_true, ↓reduceIte, Option.bind_some, Option.map_some, Bool.or_self, Bool.false_or, Bool.or_false, Bool.true_or, Bool.or_true, List.contains_nil, List.contains_cons, Bool.and_self, Bool.not_false, Bool.not_true, Bool.true_and, Bool.and_true, Bool.false_and, decide_true, decide_false, a, h, hm]
  | false => simp (config := { decide := false }) only [↓runDef, gOf, slotOf, endMs, ↓seqE, ↓bindE, bindO_ok, bindO_ex, bindO_none, seqO_nx, seqO_rt, seqO_rn, seqO_bk, seqO_ct, seqO_ex, seqO_none, ↓retE, ↓failE, ↓ifE, ↓andE, ↓andK_t, ↓andK_f, ↓orE, ↓orK_t, ↓orK_f, ↓andBE, ↓andBK_t, ↓andBK_f, ↓orBE, ↓orBK_t, ↓orBK_f, ↓chE, ↓chK_t, ↓chK_f, ifO_t, ifO_f, ↓mVa, ↓mFz, ↓mNm, ↓mFrz, ↓mOp2, ↓mOp1, ↓f2E, ↓f1E, ↓fsE, ansO_some, ansO_none, rdAll, Hd.rd, D.flat, ↓mCons, ↓mCall, ↓mTup, ↓mLst, ↓mFrzs, dBool, dadd, dsub, dgt, dMax2, dMin2, ↓mSet, ↓mSetN, ↓mSetIx, mKindN, isKindN, mWr, beq_self_eq_true, Sl.cell, Sl.put, ↓mFrzM, argDs, argD, apartB, putMu, ↓mCallF, ↓mCallN, Hd.isNm, nmu, List.cons_append, List.nil_append, List.length_cons, List.length_nil, List.replicate_succ, List.replicate_zero, List.getElem?_cons_zero, List.getElem?_cons_succ, List.set_cons_zero, List.set_cons_succ, List.any_nil, List.any_cons, Nat.reduceAdd, Nat.reduceSub, Nat.reduceBEq, if_true, if_false, Bool.false_eq_true, ↓reduceIte, Option.bind_some, Option.map_some, Bool.or_self, Bool.false_or, Bool.or_false, Bool.true_or, Bool.or_true, List.contains_nil, List.contains_cons, Bool.and_self, Bool.not_false, Bool.not_true, Bool.true_and, Bool.and_true, Bool.false_and, decide_true, decide_false, a, h, mRaise]
theorem tb_cls {rs : List Row} {g : Gm} : mCls [0] (.va (tb rs)) g = some (.ok 0 g) := rfl
theorem tb_clsN {rs : List Row} {g : Gm} {i : Nat} (h : g[i]? = some (.im (tb rs))) : mCls [0] (.nm i) g = some (.ok 0 g) := by
  simp only [mCls, Hd.ins, h]
  rfl
theorem tb_fld {rs : List Row} {g : Gm} {i : Nat} (h : g[i]? = some (.im (tb rs))) : mFld [0] 0 (.nm i) g = some (.ok (.tup (rs.map Row.d)) g) := by
  simp only [mFld, Hd.ins, h]
  rfl
end Cq.Sh

set_option Elab.async false
set_option linter.all false
set_option maxRecDepth 100000
set_option maxHeartbeats 1000000
namespace Cq.Sh
open PySem PyProof.Rows L2 Cq
/-! ### what is no table -/
theorem need_ok (rs : List Row) : f_need_table [tb rs] = some (.ret .non []) := by
  have h : dIsi [0] (.cls 0) (tb rs) = some (.bl true) := rfl
  unfold f_need_table m_need_table
  simp (config := { decide := false }) only [↓runDef, gOf, slotOf, endMs, ↓seqE, ↓bindE, bindO_ok, bindO_ex, bindO_none, seqO_nx, seqO_rt, seqO_rn, seqO_bk, seqO_ct, seqO_ex, seqO_none, ↓retE, ↓failE, ↓ifE, ↓andE, ↓andK_t, ↓andK_f, ↓orE, ↓orK_t, ↓orK_f, ↓andBE, ↓andBK_t, ↓andBK_f, ↓orBE, ↓orBK_t, ↓orBK_f, ↓chE, ↓chK_t, ↓chK_f, ifO_t, ifO_f, ↓mVa, ↓mFz, ↓mNm, ↓mFrz, ↓mOp2, ↓mOp1, ↓f2E, ↓f1E, ↓fsE, ansO_some, ansO_none, rdAll, Hd.rd, D.flat, ↓mCons, ↓mCall, ↓mTup, ↓mLst, ↓mFrzs, dBool, dadd, dsub, dgt, dMax2, dMin2, ↓mSet, ↓mSetN, ↓mSetIx, mKindN, isKindN, mWr, beq_self_eq_true, Sl.cell, Sl.put, ↓mFrzM, argDs, argD, apartB, putMu, ↓mCallF, ↓mCallN, Hd.isNm, nmu, List.cons_append, List.nil_append, List.length_cons, List.length_nil, List.replicate_succ, List.replicate_zero, List.getElem?_cons_zero, List.getElem?_cons_succ, List.set_cons_zero, List.set_cons_succ, List.any_nil, List.any_cons, Nat.reduceAdd, Nat.reduceSub, Nat.reduceBEq, if_true, if_false, Bool.false_eq_true, ↓reduceIte, Option.bind_some, Option.map_some, Bool.or_self, Bool.false_or, Bool.or_false, Bool.true_or, Bool.or_true, List.contains_nil, List.contains_cons, Bool.and_self, Bool.not_false, Bool.not_true, Bool.true_and, Bool.and_true, Bool.false_and, decide_true, decide_false, mIsi, h]
/-! ### the greatest value -/
def mx (rs : List Row) : Int := rs.foldl (fun m r => max m (max r.l r.r)) (-1)
theorem foldl_max_ge (f : Row → Int) : ∀ (rs : List Row) (m : Int), m ≤ rs.foldl (fun m r => max m (f r)) m ∧ ∀ r ∈ rs, f r ≤ rs.foldl (fun m r => max m (f r)) m
  | [], m => ⟨Int.le_refl _, fun r hr => nomatch hr⟩
  | a :: rs, m => by
    obtain ⟨h1, h2⟩ := foldl_max_ge f rs (max m (f a))
    simp only [List.foldl_cons]
    refine ⟨by omega, fun r hr => ?_⟩
    rcases List.mem_cons.mp hr with rfl | hr
    · omega
    · exact h2 r hr
theorem mx_ge (rs : List Row) : -1 ≤ mx rs := (foldl_max_ge (fun r => max r.l r.r) rs (-1)).1
theorem mx_mem {rs : List Row} {r : Row} (h : r ∈ rs) : r.l ≤ mx rs ∧ r.r ≤ mx rs := by
  have := (foldl_max_ge (fun r => max r.l r.r) rs (-1)).2 r h
  unfold mx
  omega
theorem foldl_max_le (f : Row → Int) : ∀ (rs : List Row) (m b : Int), m ≤ b → (∀ r ∈ rs, f r ≤ b) → rs.foldl (fun m r => max m (f r)) m ≤ b
  | [], m, b, h, _ => h
  | a :: rs, m, b, h, k => foldl_max_le f rs _ b (show max m (f a) ≤ b by have := k a List.mem_cons_self; omega) fun r hr => k r (List.mem_cons_of_mem _ hr)
theorem mx_le {rs : List Row} {b : Int} (h0 : -1 ≤ b) (h : ∀ r ∈ rs, r.l ≤ b ∧ r.r ≤ b) : mx rs ≤ b := foldl_max_le _ rs _ b h0 fun r hr => by have := h r hr; show max r.l r.r ≤ b; omega
theorem mx_perm {a b : List Row} (h : a.Perm b) : mx a = mx b :=
  Int.le_antisymm (mx_le (mx_ge b) fun r hr => mx_mem (h.mem_iff.mp hr)) (mx_le (mx_ge a) fun r hr => mx_mem (h.mem_iff.mpr hr))
theorem ints_of {α : Type} (f : α → Int) : ∀ l : List α, intsOf (l.map fun a => D.int (f a)) = some (l.map f)
  | [] => rfl
  | a :: l => by simp only [List.map_cons, intsOf, ints_of f l, Option.map_some]
theorem maxdef_rows {rs : List Row} (h : ∀ r ∈ rs, 0 ≤ r.l) : dMaxDef (.lst (rs.map fun r => D.int (max r.l r.r))) (.int (-1)) = some (.int (mx rs)) := by
  have e : seqI (.lst (rs.map fun r => D.int (max r.l r.r))) = some (rs.map fun r => max r.l r.r) := ints_of _ rs
  unfold dMaxDef
  rw [e]
  cases rs with
  | nil => rfl
  | cons a rs =>
    have h0 := h a List.mem_cons_self
    have : ∀ (l : List Row) (m : Int), (l.map fun r => max r.l r.r).foldl max m = l.foldl (fun m r => max m (max r.l r.r)) m := by
      intro l
      induction l with
      | nil => intro m; rfl
      | cons b l ih => intro m; simp only [List.map_cons, List.foldl_cons, ih]
    simp only [List.map_cons, maxI, this, mx, List.foldl_cons]
    rw [show max (-1) (max a.l a.r) = max a.l a.r by omega]
theorem ix1r (r : Row) : dIx r.d (.int 1) = some (.int r.l) := rfl
theorem ix2r (r : Row) : dIx r.d (.int 2) = some (.int r.r) := rfl
theorem ix3r (r : Row) : dIx r.d (.int 3) = some (.int r.o) := rfl
theorem ix0r (r : Row) : dIx r.d (.int 0) = some (.str r.k) := rfl
theorem greatest_ok {q : D} {rs : List Row} (hq : Seq q (rs.map Row.d)) (h : ∀ r ∈ rs, 0 ≤ r.l) (hl : rs.length ≤ 1000000) : f_greatest [q] = some (.ret (.int (mx rs)) []) := by
  have hc : mLc (some 0) (mItN 0) [1] (tgNm 1) (M.ret true) e_greatest_1 [.im q, .un] = some (.ok (.lst (rs.map fun r => .int (max r.l r.r))) [.im q, .un]) := by
    refine lc_map Row.d _ (itN_im rfl hq.it) rfl hl rfl rfl fun r hr => ⟨_, rfl, ?_, rfl⟩
    unfold e_greatest_1
    simp (config := { decide := false }) only [↓runDef, gOf, slotOf, endMs, ↓seqE, ↓bindE, bindO_ok, bindO_ex, bindO_none, seqO_nx, seqO_rt, seqO_rn, seqO_bk, seqO_ct, seqO_ex, seqO_none, ↓retE, ↓failE, ↓ifE, ↓andE, ↓andK_t, ↓andK_f, ↓orE, ↓orK_t, ↓orK_f, ↓andBE, ↓andBK_t, ↓andBK_f, ↓orBE, ↓orBK_t, ↓orBK_f, ↓chE, ↓chK_t, ↓chK_f, ifO_t, ifO_f, ↓mVa, ↓mFz, ↓mNm, ↓mFrz, ↓mOp2, ↓mOp1, ↓f2E, ↓f1E, ↓fsE, ansO_some, ansO_none, rdAll, Hd.rd, D.flat, ↓mCons, ↓mCall, ↓mTup, ↓mLst, ↓mFrzs, dBool, dadd, dsub, dgt, dMax2, dMin2, ↓mSet, ↓mSetN, ↓mSetIx, mKindN, isKindN, mWr, beq_self_eq_true, Sl.cell, Sl.put, ↓mFrzM, argDs, argD, apartB, putMu, ↓mCallF, ↓mCallN, Hd.isNm, nmu, List.cons_append, List.nil_append, List.length_cons, List.length_nil, List.replicate_succ, List.replicate_zero, List.getElem?_cons_zero, List.getElem?_cons_succ, List.set_cons_zero, List.set_cons_succ, List.any_nil, List.any_cons, Nat.reduceAdd, Nat.reduceSub, Nat.reduceBEq, if_true, if_false, Bool.false_eq_true, ↓reduceIte, Option.bind_some, Option.map_some, Bool.or_self, Bool.false_or, Bool.or_false, Bool.true_or, Bool.or_true, List.contains_nil, List.contains_cons, Bool.and_self, Bool.not_false, Bool.not_true, Bool.true_and, Bool.and_true, Bool.false_and, decide_true, decide_false, lendOut, wipeG, ix1r, ix2r]
  have ng : dNeg (.int 1) = some (.int (-1)) := rfl
  unfold f_greatest m_greatest mMaxDef
  simp (config := { decide := false }) only [↓runDef, gOf, slotOf, endMs, ↓seqE, ↓bindE, bindO_ok, bindO_ex, bindO_none, seqO_nx, seqO_rt, seqO_rn, seqO_bk, seqO_ct, seqO_ex, seqO_none, ↓retE, ↓failE, ↓ifE, ↓andE, ↓andK_t, ↓andK_f, ↓orE, ↓orK_t, ↓orK_f, ↓andBE, ↓andBK_t, ↓andBK_f, ↓orBE, ↓orBK_t, ↓orBK_f, ↓chE, ↓chK_t, ↓chK_f, ifO_t, ifO_f, ↓mVa, ↓mFz, ↓mNm, ↓mFrz, ↓mOp2, ↓mOp1, ↓f2E, ↓f1E, ↓fsE, ansO_some, ansO_none, rdAll, Hd.rd, D.flat, ↓mCons, ↓mCall, ↓mTup, ↓mLst, ↓mFrzs, dBool, dadd, dsub, dgt, dMax2, dMin2, ↓mSet, ↓mSetN, ↓mSetIx, mKindN, isKindN, mWr, beq_self_eq_true, Sl.cell, Sl.put, ↓mFrzM, argDs, argD, apartB, putMu, ↓mCallF, ↓mCallN, Hd.isNm, nmu, List.cons_append, List.nil_append, List.length_cons, List.length_nil, List.replicate_succ, List.replicate_zero, List.getElem?_cons_zero, List.getElem?_cons_succ, List.set_cons_zero, List.set_cons_succ, List.any_nil, List.any_cons, Nat.reduceAdd, Nat.reduceSub, Nat.reduceBEq, if_true, if_false, Bool.false_eq_true, ↓reduceIte, Option.bind_some, Option.map_some, Bool.or_self, Bool.false_or, Bool.or_false, Bool.true_or, Bool.or_true, List.contains_nil, List.contains_cons, Bool.and_self, Bool.not_false, Bool.not_true, Bool.true_and, Bool.and_true, Bool.false_and, decide_true, decide_false, hc, ng, mAns, maxdef_rows h]
def sh (m : Int) (r : Row) : Row := ⟨r.k, r.l + m, r.r + m, r.o⟩
theorem shifted_ok {q : D} {rs : List Row} (hq : Seq q (rs.map Row.d)) (m : Int) (hl : rs.length ≤ 1000000) : f_shifted [q, .int m] = some (.ret (.lst ((rs.map (sh m)).map Row.d)) []) := by
  have hc : mLc (some 0) (mItN 0) [2, 3, 4, 5] (tgTup 4 (tgCons (tgNm 2) (tgCons (tgNm 3) (tgCons (tgNm 4) (tgCons (tgNm 5) tgNil))))) (M.ret true) e_shifted_1 [.im q, .im (.int m), .un, .un, .un, .un] = some (.ok (.lst (rs.map fun r => (sh m r).d)) [.im q, .im (.int m), .un, .un, .un, .un]) := by
    refine lc_map Row.d _ (itN_im rfl hq.it) rfl hl rfl rfl fun r hr => ⟨[.im q, .im (.int m), .im (.str r.k), .im (.int r.l), .im (.int r.r), .im (.int r.o)], rfl, ?_, rfl⟩
    unfold e_shifted_1
    simp (config := { decide := false }) only [↓runDef, gOf, slotOf, endMs, ↓seqE, ↓bindE, bindO_ok, bindO_ex, bindO_none, seqO_nx, seqO_rt, seqO_rn, seqO_bk, seqO_ct, seqO_ex, seqO_none, ↓retE, ↓failE, ↓ifE, ↓andE, ↓andK_t, ↓andK_f, ↓orE, ↓orK_t, ↓orK_f, ↓andBE, ↓andBK_t, ↓andBK_f, ↓orBE, ↓orBK_t, ↓orBK_f, ↓chE, ↓chK_t, ↓chK_f, ifO_t, ifO_f, ↓mVa, ↓mFz, ↓mNm, ↓mFrz, ↓mOp2, ↓mOp1, ↓f2E, ↓f1E, ↓fsE, ansO_some, ansO_none, rdAll, Hd.rd, D.flat, ↓mCons, ↓mCall, ↓mTup, ↓mLst, ↓mFrzs, dBool, dadd, dsub, dgt, dMax2, dMin2, ↓mSet, ↓mSetN, ↓mSetIx, mKindN, isKindN, mWr, beq_self_eq_true, Sl.cell, Sl.put, ↓mFrzM, argDs, argD, apartB, putMu, ↓mCallF, ↓mCallN, Hd.isNm, nmu, List.cons_append, List.nil_append, List.length_cons, List.length_nil, List.replicate_succ, List.replicate_zero, List.getElem?_cons_zero, List.getElem?_cons_succ, List.set_cons_zero, List.set_cons_succ, List.any_nil, List.any_cons, Nat.reduceAdd, Nat.reduceSub, Nat.reduceBEq, if_true, if_false, Bool.false_eq_true, ↓reduceIte, Option.bind_some, Option.map_some, Bool.or_self, Bool.false_or, Bool.or_false, Bool.true_or, Bool.or_true, List.contains_nil, List.contains_cons, Bool.and_self, Bool.not_false, Bool.not_true, Bool.true_and, Bool.and_true, Bool.false_and, decide_true, decide_false, lit4]
    rfl
  have e : (rs.map fun r => (sh m r).d) = (rs.map (sh m)).map Row.d := by rw [List.map_map]; rfl
  rw [e] at hc
  unfold f_shifted m_shifted
  simp (config := { decide := false }) only [↓runDef, gOf, slotOf, endMs, ↓seqE, ↓bindE, bindO_ok, bindO_ex, bindO_none, seqO_nx, seqO_rt, seqO_rn, seqO_bk, seqO_ct, seqO_ex, seqO_none, ↓retE, ↓failE, ↓ifE, ↓andE, ↓andK_t, ↓andK_f, ↓orE, ↓orK_t, ↓orK_f, ↓andBE, ↓andBK_t, ↓andBK_f, ↓orBE, ↓orBK_t, ↓orBK_f, ↓chE, ↓chK_t, ↓chK_f, ifO_t, ifO_f, ↓mVa, ↓mFz, ↓mNm, ↓mFrz, ↓mOp2, ↓mOp1, ↓f2E, ↓f1E, ↓fsE, ansO_some, ansO_none, rdAll, Hd.rd, D.flat, ↓mCons, ↓mCall, ↓mTup, ↓mLst, ↓mFrzs, dBool, dadd, dsub, dgt, dMax2, dMin2, ↓mSet, ↓mSetN, ↓mSetIx, mKindN, isKindN, mWr, beq_self_eq_true, Sl.cell, Sl.put, ↓mFrzM, argDs, argD, apartB, putMu, ↓mCallF, ↓mCallN, Hd.isNm, nmu, List.cons_append, List.nil_append, List.length_cons, List.length_nil, List.replicate_succ, List.replicate_zero, List.getElem?_cons_zero, List.getElem?_cons_succ, List.set_cons_zero, List.set_cons_succ, List.any_nil, List.any_cons, Nat.reduceAdd, Nat.reduceSub, Nat.reduceBEq, if_true, if_false, Bool.false_eq_true, ↓reduceIte, Option.bind_some, Option.map_some, Bool.or_self, Bool.false_or, Bool.or_false, Bool.true_or, Bool.or_true, List.contains_nil, List.contains_cons, Bool.and_self, Bool.not_false, Bool.not_true, Bool.true_and, Bool.and_true, Bool.false_and, decide_true, decide_false, hc]
theorem tb_rowsN {rs : List Row} {g : Gm} {i : Nat} (h : g[i]? = some (.im (tb rs))) : mProp [0] .im (fun _ => f_Table_rows) (.nm i) g = some (.ok (.tup (rs.map Row.d)) g) := by
  have c := tb_clsN h
  unfold mProp
  simp (config := { decide := false }) only [↓runDef, gOf, slotOf, endMs, ↓seqE, ↓bindE, bindO_ok, bindO_ex, bindO_none, seqO_nx, seqO_rt, seqO_rn, seqO_bk, seqO_ct, seqO_ex, seqO_none, ↓retE, ↓failE, ↓ifE, ↓andE, ↓andK_t, ↓andK_f, ↓orE, ↓orK_t, ↓orK_f, ↓andBE, ↓andBK_t, ↓andBK_f, ↓orBE, ↓orBK_t, ↓orBK_f, ↓chE, ↓chK_t, ↓chK_f, ifO_t, ifO_f, ↓mVa, ↓mFz, ↓mNm, ↓mFrz, ↓mOp2, ↓mOp1, ↓f2E, ↓f1E, ↓fsE, ansO_some, ansO_none, rdAll, Hd.rd, D.flat, ↓mCons, ↓mCall, ↓mTup, ↓mLst, ↓mFrzs, dBool, dadd, dsub, dgt, dMax2, dMin2, ↓mSet, ↓mSetN, ↓mSetIx, mKindN, isKindN, mWr, beq_self_eq_true, Sl.cell, Sl.put, ↓mFrzM, argDs, argD, apartB, putMu, ↓mCallF, ↓mCallN, Hd.isNm, nmu, List.cons_append, List.nil_append, List.length_cons, List.length_nil, List.replicate_succ, List.replicate_zero, List.getElem?_cons_zero, List.getElem?_cons_succ, List.set_cons_zero, List.set_cons_succ, List.any_nil, List.any_cons, Nat.reduceAdd, Nat.reduceSub, Nat.reduceBEq, if_true, if_false, Bool.false_eq_true, ↓reduceIte, Option.bind_some, Option.map_some, Bool.or_self, Bool.false_or, Bool.or_false, Bool.true_or, Bool.or_true, List.contains_nil, List.contains_cons, Bool.and_self, Bool.not_false, Bool.not_true, Bool.true_and, Bool.and_true, Bool.false_and, decide_true, decide_false, c, h, rows_prop, noEx]
/-! ### tables side by side -/
def side (a b : List Row) : List Row := a ++ b.map (sh (mx a + 1))
theorem or_ok {a b : List Row} (ha : ∀ r ∈ a, 0 ≤ r.l) (la : a.length ≤ 1000) (lb : b.length ≤ 1000) : f_Table___or [tb a, tb b] = tofR (side a b) := by
  have nt := need_ok b
  have f0 := tb_fld (rs := a) (g := [.im (tb a), .im (tb b)]) (i := 0) rfl
  have p1 := tb_rowsN (rs := b) (g := [.im (tb a), .im (tb b)]) (i := 1) rfl
  have g1 := greatest_ok (q := .tup (a.map Row.d)) (rs := a) (.inr rfl) ha (by omega)
  have s1 := shifted_ok (q := .tup (b.map Row.d)) (rs := b) (.inr rfl) (mx a + 1) (by omega)
  have dl : dList [.tup (a.map Row.d)] = some (.lst (a.map Row.d)) := rfl
  have ad : dAdd (.lst (a.map Row.d)) (.lst ((b.map (sh (mx a + 1))).map Row.d)) = some (.lst ((side a b).map Row.d)) := by
    simp only [dAdd]
    rw [if_pos (by simp; omega)]
    simp [side]
  have t := tof_any (side a b)
  unfold f_Table___or m_Table___or
  unfold tofR at t ⊢
  cases g : goodB (side a b) with
  | true =>
    simp only [g, if_true] at t ⊢
    simp (config := { decide := false }) only [↓runDef, gOf, slotOf, endMs, ↓seqE, ↓bindE, bindO_ok, bindO_ex, bindO_none, seqO_nx, seqO_rt, seqO_rn, seqO_bk, seqO_ct, seqO_ex, seqO_none, ↓retE, ↓failE, ↓ifE, ↓andE, ↓andK_t, ↓andK_f, ↓orE, ↓orK_t, ↓orK_f, ↓andBE, ↓andBK_t, ↓andBK_f, ↓orBE, ↓orBK_t, ↓orBK_f, ↓chE, ↓chK_t, ↓chK_f, ifO_t, ifO_f, ↓mVa, ↓mFz, ↓mNm, ↓mFrz, ↓mOp2, ↓mOp1, ↓f2E, ↓f1E, ↓fsE, ansO_some, ansO_none, rdAll, Hd.rd, D.flat, ↓mCons, ↓mCall, ↓mTup, ↓mLst, ↓mFrzs, dBool, dadd, dsub, dgt, dMax2, dMin2, ↓mSet, ↓mSetN, ↓mSetIx, mKindN, isKindN, mWr, beq_self_eq_true, Sl.cell, Sl.put, ↓mFrzM, argDs, argD, apartB, putMu, ↓mCallF, ↓mCallN, Hd.isNm, nmu, List.cons_append, List.nil_append, List.length_cons, List.length_nil, List.replicate_succ, List.replicate_zero, List.getElem?_cons_zero, List.getElem?_cons_succ, List.set_cons_zero, List.set_cons_succ, List.any_nil, List.any_cons, Nat.reduceAdd, Nat.reduceSub, Nat.reduceBEq, if_true, if_false, Bool.false_eq_true, ↓reduceIte, Option.bind_some, Option.map_some, Bool.or_self, Bool.false_or, Bool.or_false, Bool.true_or, Bool.or_true, List.contains_nil, List.contains_cons, Bool.and_self, Bool.not_false, Bool.not_true, Bool.true_and, Bool.and_true, Bool.false_and, decide_true, decide_false, nt, f0, dl, p1, g1, s1, ad, t]
  | false =>
    simp only [g, Bool.false_eq_true, if_false] at t ⊢
    simp (config := { decide := false }) only [↓runDef, gOf, slotOf, endMs, ↓seqE, ↓bindE, bindO_ok, bindO_ex, bindO_none, seqO_nx, seqO_rt, seqO_rn, seqO_bk, seqO_ct, seqO_ex, seqO_none, ↓retE, ↓failE, ↓ifE, ↓andE, ↓andK_t, ↓andK_f, ↓orE, ↓orK_t, ↓orK_f, ↓andBE, ↓andBK_t, ↓andBK_f, ↓orBE, ↓orBK_t, ↓orBK_f, ↓chE, ↓chK_t, ↓chK_f, ifO_t, ifO_f, ↓mVa, ↓mFz, ↓mNm, ↓mFrz, ↓mOp2, ↓mOp1, ↓f2E, ↓f1E, ↓fsE, ansO_some, ansO_none, rdAll, Hd.rd, D.flat, ↓mCons, ↓mCall, ↓mTup, ↓mLst, ↓mFrzs, dBool, dadd, dsub, dgt, dMax2, dMin2, ↓mSet, ↓mSetN, ↓mSetIx, mKindN, isKindN, mWr, beq_self_eq_true, Sl.cell, Sl.put, ↓mFrzM, argDs, argD, apartB, putMu, ↓mCallF, ↓mCallN, Hd.isNm, nmu, List.cons_append, List.nil_append, List.length_cons, List.length_nil, List.replicate_succ, List.replicate_zero, List.getElem?_cons_zero, List.getElem?_cons_succ, List.set_cons_zero, List.set_cons_succ, List.any_nil, List.any_cons, Nat.reduceAdd, Nat.reduceSub, Nat.reduceBEq, if_true, if_false, Bool.false_eq_true, ↓reduceIte, Option.bind_some, Option.map_some, Bool.or_self, Bool.false_or, Bool.or_false, Bool.true_or, Bool.or_true, List.contains_nil, List.contains_cons, Bool.and_self, Bool.not_false, Bool.not_true, Bool.true_and, Bool.and_true, Bool.false_and, decide_true, decide_false, nt, f0, dl, p1, g1, s1, ad, t]
/-! ### what the laws say of a table that is made -/
theorem rhs_tb {rs : List Row} {g : Gm} {i : Nat} (h : g[i]? = some (.im (tb rs))) : mRhs 0 (.nm i) g = some (.ok () g) := by
  unfold mRhs
  simp only [Hd.ins, h]
  rfl
end Cq.Sh

set_option Elab.async false
set_option linter.all false
set_option maxRecDepth 100000
set_option maxHeartbeats 1000000
namespace Cq.Sh
open PySem PyProof.Rows L2 Cq
/-! ### tables of pairs -/
def pr (r q : Row) : Row := ⟨r.k, 10 * r.l + q.l, 10 * r.r + q.r, r.o * q.o⟩
def prs (r : Row) (b : List Row) : List Row := (b.filter fun q => decide (q.k = r.k)).map (pr r)
def pairs (a b : List Row) : List Row := a.flatMap fun r => prs r b
theorem prs_len (r : Row) (b : List Row) : (prs r b).length ≤ b.length := by
  unfold prs
  rw [List.length_map]
  exact List.length_filter_le _ _
theorem pairs_len : ∀ (a b : List Row), (pairs a b).length ≤ a.length * b.length
  | [], b => by simp [pairs]
  | r :: a, b => by
    have := pairs_len a b
    have := prs_len r b
    have e : pairs (r :: a) b = prs r b ++ pairs a b := rfl
    rw [e, List.length_append, List.length_cons, Nat.add_mul, Nat.one_mul]
    omega
theorem paired_step {A B : D} {found : List Row} {r q : Row} (ho : r.o.natAbs < 2 ^ 64) (hl : found.length ≤ 10000) :
    b_paired_1 [.im A, .im B, .ow (.lst (found.map Row.d)), .im (.str r.k), .im (.int r.l), .im (.int r.r), .im (.int r.o), .im q.d] =
      some (.ok .nx [.im A, .im B, .ow (.lst ((found ++ prs r [q]).map Row.d)), .im (.str r.k), .im (.int r.l), .im (.int r.r), .im (.int r.o), .im q.d]) := by
  have e0 : dEq (.str q.k) (.str r.k) = some (.bl (decide (q.k = r.k))) := rfl
  have m1 : dMul (.int 10) (.int r.l) = some (.int (10 * r.l)) := dmull (by decide)
  have m2 : dMul (.int 10) (.int r.r) = some (.int (10 * r.r)) := dmull (by decide)
  have m3 : dMul (.int r.o) (.int q.o) = some (.int (r.o * q.o)) := dmull ho
  have ap : fAppend (.lst (found.map Row.d)) [.tup [.str r.k, .int (10 * r.l + q.l), .int (10 * r.r + q.r), .int (r.o * q.o)]] = some (.non, .lst ((found ++ [pr r q]).map Row.d)) := by
    simp only [fAppend]
    rw [if_pos (by simp; omega)]
    simp [pr, Row.d]
  unfold b_paired_1
  by_cases c : q.k = r.k
  · have p : prs r [q] = [pr r q] := by simp [prs, c]
    simp (config := { decide := false }) only [↓runDef, gOf, slotOf, endMs, ↓seqE, ↓bindE, bindO_ok, bindO_ex, bindO_none, seqO_nx, seqO_rt, seqO_rn, seqO_bk, seqO_ct, seqO_ex, seqO_none, ↓retE, ↓failE, ↓ifE, ↓andE, ↓andK_t, ↓andK_f, ↓orE, ↓orK_t, ↓orK_f, ↓andBE, ↓andBK_t, ↓andBK_f, ↓orBE, ↓orBK_t, ↓orBK_f, ↓chE, ↓chK_t, ↓chK_f, ifO_t, ifO_f, ↓mVa, ↓mFz, ↓mNm, ↓mFrz, ↓mOp2, ↓mOp1, ↓f2E, ↓f1E, ↓fsE, ansO_some, ansO_none, rdAll, Hd.rd, D.flat, ↓mCons, ↓mCall, ↓mTup, ↓mLst, ↓mFrzs, dBool, dadd, dsub, dgt, dMax2, dMin2, ↓mSet, ↓mSetN, ↓mSetIx, mKindN, isKindN, mWr, beq_self_eq_true, Sl.cell, Sl.put, ↓mFrzM, argDs, argD, apartB, putMu, ↓mCallF, ↓mCallN, Hd.isNm, nmu, List.cons_append, List.nil_append, List.length_cons, List.length_nil, List.replicate_succ, List.replicate_zero, List.getElem?_cons_zero, List.getElem?_cons_succ, List.set_cons_zero, List.set_cons_succ, List.any_nil, List.any_cons, Nat.reduceAdd, Nat.reduceSub, Nat.reduceBEq, if_true, if_false, Bool.false_eq_true, ↓reduceIte, Option.bind_some, Option.map_some, Bool.or_self, Bool.false_or, Bool.or_false, Bool.true_or, Bool.or_true, List.contains_nil, List.contains_cons, Bool.and_self, Bool.not_false, Bool.not_true, Bool.true_and, Bool.and_true, Bool.false_and, decide_true, decide_false, ix0r, e0, decide_eq_true c, mWm, m1, m2, m3, ix1r, ix2r, ix3r, lit4, ap, p]
  · have p : prs r [q] = [] := by simp [prs, c]
    simp (config := { decide := false }) only [↓runDef, gOf, slotOf, endMs, ↓seqE, ↓bindE, bindO_ok, bindO_ex, bindO_none, seqO_nx, seqO_rt, seqO_rn, seqO_bk, seqO_ct, seqO_ex, seqO_none, ↓retE, ↓failE, ↓ifE, ↓andE, ↓andK_t, ↓andK_f, ↓orE, ↓orK_t, ↓orK_f, ↓andBE, ↓andBK_t, ↓andBK_f, ↓orBE, ↓orBK_t, ↓orBK_f, ↓chE, ↓chK_t, ↓chK_f, ifO_t, ifO_f, ↓mVa, ↓mFz, ↓mNm, ↓mFrz, ↓mOp2, ↓mOp1, ↓f2E, ↓f1E, ↓fsE, ansO_some, ansO_none, rdAll, Hd.rd, D.flat, ↓mCons, ↓mCall, ↓mTup, ↓mLst, ↓mFrzs, dBool, dadd, dsub, dgt, dMax2, dMin2, ↓mSet, ↓mSetN, ↓mSetIx, mKindN, isKindN, mWr, beq_self_eq_true, Sl.cell, Sl.put, ↓mFrzM, argDs, argD, apartB, putMu, ↓mCallF, ↓mCallN, Hd.isNm, nmu, List.cons_append, List.nil_append, List.length_cons, List.length_nil, List.replicate_succ, List.replicate_zero, List.getElem?_cons_zero, List.getElem?_cons_succ, List.set_cons_zero, List.set_cons_succ, List.any_nil, List.any_cons, Nat.reduceAdd, Nat.reduceSub, Nat.reduceBEq, if_true, if_false, Bool.false_eq_true, ↓reduceIte, Option.bind_some, Option.map_some, Bool.or_self, Bool.false_or, Bool.or_false, Bool.true_or, Bool.or_true, List.contains_nil, List.contains_cons, Bool.and_self, Bool.not_false, Bool.not_true, Bool.true_and, Bool.and_true, Bool.false_and, decide_true, decide_false, ix0r, e0, decide_eq_false c, p, List.append_nil]
theorem prs_app (r : Row) (b c : List Row) : prs r (b ++ c) = prs r b ++ prs r c := by simp [prs]
theorem prs_cons (r q : Row) (b : List Row) : prs r (q :: b) = prs r [q] ++ prs r b := prs_app r [q] b
theorem paired_row {A : D} {b found : List Row} {q : D} (hq : Seq q (b.map Row.d)) {r : Row} {s7 : Sl} (ho : r.o.natAbs < 2 ^ 64) (hl : found.length + b.length ≤ 10000) :
    ∃ z7, b_paired_2 [.im A, .im q, .ow (.lst (found.map Row.d)), .im (.str r.k), .im (.int r.l), .im (.int r.r), .im (.int r.o), s7] =
      some (.ok .nx [.im A, .im q, .ow (.lst ((found ++ prs r b).map Row.d)), .im (.str r.k), .im (.int r.l), .im (.int r.r), .im (.int r.o), z7]) := by
  unfold b_paired_2
  rw [for_im (ds := b.map Row.d) rfl hq.it]
  obtain ⟨g', h1, xs', f', z7, e0, h2, h3, rfl⟩ := forL_run (T := tgNm 7) (body := b_paired_1) (fun rr g => ∃ (xs' f' : List Row) (z7 : Sl), rr = xs'.map Row.d ∧ f' ++ prs r xs' = found ++ prs r b ∧ f'.length + xs'.length ≤ 10000 ∧
      g = [.im A, .im q, .ow (.lst (f'.map Row.d)), .im (.str r.k), .im (.int r.l), .im (.int r.r), .im (.int r.o), z7]) (ds := b.map Row.d) (g := [.im A, .im q, .ow (.lst (found.map Row.d)), .im (.str r.k), .im (.int r.l), .im (.int r.r), .im (.int r.o), s7])
    ⟨b, found, s7, rfl, rfl, hl, rfl⟩ fun d rr g ⟨xs', f', z7, e0, h2, h3, eg⟩ => by
      subst eg
      cases xs' with
      | nil => cases e0
      | cons x xs' =>
        simp only [List.map_cons, List.cons.injEq] at e0
        obtain ⟨rfl, rfl⟩ := e0
        simp only [List.length_cons] at h3
        have := prs_len r [x]
        refine ⟨_, _, rfl, paired_step ho (by omega), xs', f' ++ prs r [x], _, rfl, ?_, ?_, rfl⟩
        · rw [List.append_assoc, ← prs_cons]; exact h2
        · rw [List.length_append]; simp only [List.length_cons, List.length_nil] at this; omega
  have : xs' = [] := by cases xs' with | nil => rfl | cons x xs' => cases e0
  subst this
  simp only [prs, List.filter_nil, List.map_nil, List.append_nil] at h2
  refine ⟨z7, ?_⟩
  rw [h1, h2]
  rfl
theorem paired_ok {p q : D} {a b : List Row} (hp : Seq p (a.map Row.d)) (hq : Seq q (b.map Row.d)) (la : a.length ≤ 50) (lb : b.length ≤ 50) (ho : ∀ r ∈ a, r.o.natAbs < 2 ^ 64) : f_paired [p, q] = some (.ret (.lst ((pairs a b).map Row.d)) []) := by
  have hf : ∃ z3 z4 z5 z6 z7, mFor (some 0) (mItN 0) (tgTup 4 (tgCons (tgNm 3) (tgCons (tgNm 4) (tgCons (tgNm 5) (tgCons (tgNm 6) tgNil))))) b_paired_2 [.im p, .im q, .ow (.lst []), .un, .un, .un, .un, .un] = some (.ok .nx [.im p, .im q, .ow (.lst ((pairs a b).map Row.d)), z3, z4, z5, z6, z7]) := by
    rw [for_im (ds := a.map Row.d) rfl hp.it]
    obtain ⟨g', h1, xs', f', z3, z4, z5, z6, z7, e0, h2, h3, h4, rfl⟩ := forL_run (T := tgTup 4 (tgCons (tgNm 3) (tgCons (tgNm 4) (tgCons (tgNm 5) (tgCons (tgNm 6) tgNil))))) (body := b_paired_2) (fun rr g => ∃ (xs' f' : List Row) (z3 z4 z5 z6 z7 : Sl), rr = xs'.map Row.d ∧ f' ++ pairs xs' b = pairs a b ∧ f'.length + xs'.length * b.length ≤ 2500 ∧ (∀ r ∈ xs', r.o.natAbs < 2 ^ 64) ∧
        g = [.im p, .im q, .ow (.lst (f'.map Row.d)), z3, z4, z5, z6, z7]) (ds := a.map Row.d) (g := [.im p, .im q, .ow (.lst []), .un, .un, .un, .un, .un])
      ⟨a, [], _, _, _, _, _, rfl, rfl, by simp only [List.length_nil, Nat.zero_add]; exact Nat.mul_le_mul la lb, ho, rfl⟩ fun d rr g ⟨xs', f', z3, z4, z5, z6, z7, e0, h2, h3, h4, eg⟩ => by
        subst eg
        cases xs' with
        | nil => cases e0
        | cons x xs' =>
          simp only [List.map_cons, List.cons.injEq] at e0
          obtain ⟨rfl, rfl⟩ := e0
          simp only [List.length_cons, Nat.add_mul, Nat.one_mul] at h3
          have := prs_len x b
          obtain ⟨y7, e⟩ := paired_row (A := p) (found := f') (r := x) (s7 := z7) hq (h4 x List.mem_cons_self) (by omega)
          refine ⟨_, _, rfl, e, xs', f' ++ prs x b, _, _, _, _, _, rfl, ?_, ?_, fun r hr => h4 r (List.mem_cons_of_mem _ hr), rfl⟩
          · rw [List.append_assoc]; exact h2
          · rw [List.length_append]; omega
    have : xs' = [] := by cases xs' with | nil => rfl | cons x xs' => cases e0
    subst this
    simp only [pairs, List.flatMap_nil, List.append_nil] at h2
    refine ⟨z3, z4, z5, z6, z7, ?_⟩
    rw [h1, h2]
    rfl
  obtain ⟨z3, z4, z5, z6, z7, hf⟩ := hf
  unfold f_paired m_paired
  simp (config := { decide := false }) only [↓runDef, gOf, slotOf, endMs, ↓seqE, ↓bindE, bindO_ok, bindO_ex, bindO_none, seqO_nx, seqO_rt, seqO_rn, seqO_bk, seqO_ct, seqO_ex, seqO_none, ↓retE, ↓failE, ↓ifE, ↓andE, ↓andK_t, ↓andK_f, ↓orE, ↓orK_t, ↓orK_f, ↓andBE, ↓andBK_t, ↓andBK_f, ↓orBE, ↓orBK_t, ↓orBK_f, ↓chE, ↓chK_t, ↓chK_f, ifO_t, ifO_f, ↓mVa, ↓mFz, ↓mNm, ↓mFrz, ↓mOp2, ↓mOp1, ↓f2E, ↓f1E, ↓fsE, ansO_some, ansO_none, rdAll, Hd.rd, D.flat, ↓mCons, ↓mCall, ↓mTup, ↓mLst, ↓mFrzs, dBool, dadd, dsub, dgt, dMax2, dMin2, ↓mSet, ↓mSetN, ↓mSetIx, mKindN, isKindN, mWr, beq_self_eq_true, Sl.cell, Sl.put, ↓mFrzM, argDs, argD, apartB, putMu, ↓mCallF, ↓mCallN, Hd.isNm, nmu, List.cons_append, List.nil_append, List.length_cons, List.length_nil, List.replicate_succ, List.replicate_zero, List.getElem?_cons_zero, List.getElem?_cons_succ, List.set_cons_zero, List.set_cons_succ, List.any_nil, List.any_cons, Nat.reduceAdd, Nat.reduceSub, Nat.reduceBEq, if_true, if_false, Bool.false_eq_true, ↓reduceIte, Option.bind_some, Option.map_some, Bool.or_self, Bool.false_or, Bool.or_false, Bool.true_or, Bool.or_true, List.contains_nil, List.contains_cons, Bool.and_self, Bool.not_false, Bool.not_true, Bool.true_and, Bool.and_true, Bool.false_and, decide_true, decide_false, lit0, hf]
def mulR (a b : List Row) : Option FR := if 9 < mx a ∨ 9 < mx b then some (.exc 18 []) else tofR (pairs a b)
theorem mul_ok {a b : List Row} (ha : Good a) (hb : Good b) : f_Table___mul [tb a, tb b] = mulR a b := by
  have la := ha.len
  have lb := hb.len
  have nt := need_ok b
  have f0 := tb_fld (rs := a) (g := [.im (tb a), .im (tb b)]) (i := 0) rfl
  have p1 := tb_rowsN (rs := b) (g := [.im (tb a), .im (tb b)]) (i := 1) rfl
  have g1 := greatest_ok (q := .tup (a.map Row.d)) (rs := a) (.inr rfl) (fun r hr => (ha.ok r hr).l0) (by omega)
  have g2 := greatest_ok (q := .tup (b.map Row.d)) (rs := b) (.inr rfl) (fun r hr => (hb.ok r hr).l0) (by omega)
  have pd := paired_ok (p := .tup (a.map Row.d)) (q := .tup (b.map Row.d)) (a := a) (b := b) (.inr rfl) (.inr rfl) (by omega) (by omega) fun r hr => by have := (ha.ok r hr).o0; have := (ha.ok r hr).o1; omega
  have t := tof_any (pairs a b)
  unfold f_Table___mul m_Table___mul mulR
  by_cases c1 : 9 < mx a
  · rw [if_pos (.inl c1)]
    simp (config := { decide := false }) only [↓runDef, gOf, slotOf, endMs, ↓seqE, ↓bindE, bindO_ok, bindO_ex, bindO_none, seqO_nx, seqO_rt, seqO_rn, seqO_bk, seqO_ct, seqO_ex, seqO_none, ↓retE, ↓failE, ↓ifE, ↓andE, ↓andK_t, ↓andK_f, ↓orE, ↓orK_t, ↓orK_f, ↓andBE, ↓andBK_t, ↓andBK_f, ↓orBE, ↓orBK_t, ↓orBK_f, ↓chE, ↓chK_t, ↓chK_f, ifO_t, ifO_f, ↓mVa, ↓mFz, ↓mNm, ↓mFrz, ↓mOp2, ↓mOp1, ↓f2E, ↓f1E, ↓fsE, ansO_some, ansO_none, rdAll, Hd.rd, D.flat, ↓mCons, ↓mCall, ↓mTup, ↓mLst, ↓mFrzs, dBool, dadd, dsub, dgt, dMax2, dMin2, ↓mSet, ↓mSetN, ↓mSetIx, mKindN, isKindN, mWr, beq_self_eq_true, Sl.cell, Sl.put, ↓mFrzM, argDs, argD, apartB, putMu, ↓mCallF, ↓mCallN, Hd.isNm, nmu, List.cons_append, List.nil_append, List.length_cons, List.length_nil, List.replicate_succ, List.replicate_zero, List.getElem?_cons_zero, List.getElem?_cons_succ, List.set_cons_zero, List.set_cons_succ, List.any_nil, List.any_cons, Nat.reduceAdd, Nat.reduceSub, Nat.reduceBEq, if_true, if_false, Bool.false_eq_true, ↓reduceIte, Option.bind_some, Option.map_some, Bool.or_self, Bool.false_or, Bool.or_false, Bool.true_or, Bool.or_true, List.contains_nil, List.contains_cons, Bool.and_self, Bool.not_false, Bool.not_true, Bool.true_and, Bool.and_true, Bool.false_and, decide_true, decide_false, nt, f0, g1, decide_eq_true c1, mRaise]
  · by_cases c2 : 9 < mx b
    · rw [if_pos (.inr c2)]
      simp (config := { decide := false }) only [↓runDef, gOf, slotOf, endMs, ↓seqE, ↓bindE, bindO_ok, bindO_ex, bindO_none, seqO_nx, seqO_rt, seqO_rn, seqO_bk, seqO_ct, seqO_ex, seqO_none, ↓retE, ↓failE, ↓ifE, ↓andE, ↓andK_t, ↓andK_f, ↓orE, ↓orK_t, ↓orK_f, ↓andBE, ↓andBK_t, ↓andBK_f, ↓orBE, ↓orBK_t, ↓orBK_f, ↓chE, ↓chK_t, ↓chK_f, ifO_t, ifO_f, ↓mVa, ↓mFz, ↓mNm, ↓mFrz, ↓mOp2, ↓mOp1, ↓f2E, ↓f1E, ↓fsE, ansO_some, ansO_none, rdAll, Hd.rd, D.flat, ↓mCons, ↓mCall, ↓mTup, ↓mLst, ↓mFrzs, dBool, dadd, dsub, dgt, dMax2, dMin2, ↓mSet, ↓mSetN, ↓mSetIx, mKindN, isKindN, mWr, beq_self_eq_true, Sl.cell, Sl.put, ↓mFrzM, argDs, argD, apartB, putMu, ↓mCallF, ↓mCallN, Hd.isNm, nmu, List.cons_append, List.nil_append, List.length_cons, List.length_nil, List.replicate_succ, List.replicate_zero, List.getElem?_cons_zero, List.getElem?_cons_succ, List.set_cons_zero, List.set_cons_succ, List.any_nil, List.any_cons, Nat.reduceAdd, Nat.reduceSub, Nat.reduceBEq, if_true, if_false, Bool.false_eq_true, ↓reduceIte, Option.bind_some, Option.map_some, Bool.or_self, Bool.false_or, Bool.or_false, Bool.true_or, Bool.or_true, List.contains_nil, List.contains_cons, Bool.and_self, Bool.not_false, Bool.not_true, Bool.true_and, Bool.and_true, Bool.false_and, decide_true, decide_false, nt, f0, g1, decide_eq_false c1, p1, g2, decide_eq_true c2, mRaise]
    · rw [if_neg (fun z => z.elim c1 c2)]
      unfold tofR at t ⊢
      cases g : goodB (pairs a b) with
      | true =>
        simp only [g, if_true] at t ⊢
        simp (config := { decide := false }) only [↓runDef, gOf, slotOf, endMs, ↓seqE, ↓bindE, bindO_ok, bindO_ex, bindO_none, seqO_nx, seqO_rt, seqO_rn, seqO_bk, seqO_ct, seqO_ex, seqO_none, ↓retE, ↓failE, ↓ifE, ↓andE, ↓andK_t, ↓andK_f, ↓orE, ↓orK_t, ↓orK_f, ↓andBE, ↓andBK_t, ↓andBK_f, ↓orBE, ↓orBK_t, ↓orBK_f, ↓chE, ↓chK_t, ↓chK_f, ifO_t, ifO_f, ↓mVa, ↓mFz, ↓mNm, ↓mFrz, ↓mOp2, ↓mOp1, ↓f2E, ↓f1E, ↓fsE, ansO_some, ansO_none, rdAll, Hd.rd, D.flat, ↓mCons, ↓mCall, ↓mTup, ↓mLst, ↓mFrzs, dBool, dadd, dsub, dgt, dMax2, dMin2, ↓mSet, ↓mSetN, ↓mSetIx, mKindN, isKindN, mWr, beq_self_eq_true, Sl.cell, Sl.put, ↓mFrzM, argDs, argD, apartB, putMu, ↓mCallF, ↓mCallN, Hd.isNm, nmu, List.cons_append, List.nil_append, List.length_cons, List.length_nil, List.replicate_succ, List.replicate_zero, List.getElem?_cons_zero, List.getElem?_cons_succ, List.set_cons_zero, List.set_cons_succ, List.any_nil, List.any_cons, Nat.reduceAdd, Nat.reduceSub, Nat.reduceBEq, if_true, if_false, Bool.false_eq_true, ↓reduceIte, Option.bind_some, Option.map_some, Bool.or_self, Bool.false_or, Bool.or_false, Bool.true_or, Bool.or_true, List.contains_nil, List.contains_cons, Bool.and_self, Bool.not_false, Bool.not_true, Bool.true_and, Bool.and_true, Bool.false_and, decide_true, decide_false, nt, f0, g1, decide_eq_false c1, p1, g2, decide_eq_false c2, pd, t]
      | false =>
        simp only [g, Bool.false_eq_true, if_false] at t ⊢
        simp (config := { decide := false }) only [↓runDef, gOf, slotOf, endMs, ↓seqE, ↓bindE, bindO_ok, bindO_ex, bindO_none, seqO_nx, seqO_rt, seqO_rn, seqO_bk, seqO_ct, seqO_ex, seqO_none, ↓retE, ↓failE, ↓ifE, ↓andE, ↓andK_t, ↓andK_f, ↓orE, ↓orK_t, ↓orK_f, ↓andBE, ↓andBK_t, ↓andBK_f, ↓orBE, ↓orBK_t, ↓orBK_f, ↓chE, ↓chK_t, ↓chK_f, ifO_t, ifO_f, ↓mVa, ↓mFz, ↓mNm, ↓mFrz, ↓mOp2, ↓mOp1, ↓f2E, ↓f1E, ↓fsE, ansO_some, ansO_none, rdAll, Hd.rd, D.flat, ↓mCons, ↓mCall, ↓mTup, ↓mLst, ↓mFrzs, dBool, dadd, dsub, dgt, dMax2, dMin2, ↓mSet, ↓mSetN, ↓mSetIx, mKindN, isKindN, mWr, beq_self_eq_true, Sl.cell, Sl.put, ↓mFrzM, argDs, argD, apartB, putMu, ↓mCallF, ↓mCallN, Hd.isNm, nmu, List.cons_append, List.nil_append, List.length_cons, List.length_nil, List.replicate_succ, List.replicate_zero, List.getElem?_cons_zero, List.getElem?_cons_succ, List.set_cons_zero, List.set_cons_succ, List.any_nil, List.any_cons, Nat.reduceAdd, Nat.reduceSub, Nat.reduceBEq, if_true, if_false, Bool.false_eq_true, ↓reduceIte, Option.bind_some, Option.map_some, Bool.or_self, Bool.false_or, Bool.or_false, Bool.true_or, Bool.or_true, List.contains_nil, List.contains_cons, Bool.and_self, Bool.not_false, Bool.not_true, Bool.true_and, Bool.and_true, Bool.false_and, decide_true, decide_false, nt, f0, g1, decide_eq_false c1, p1, g2, decide_eq_false c2, pd, t]
end Cq.Sh

set_option Elab.async false
set_option linter.all false
set_option maxRecDepth 100000
set_option maxHeartbeats 1000000
namespace Cq.Sh
open PySem PyProof.Rows L2 Cq
/-! ### rows of both -/
abbrev Ky : Type := Str × Int × Int
def cnt (rs : List Row) (k : Ky) : Int := ((rs.filter fun r => decide (r.key = k)).map Row.o).sum
def rt (all : List Row) (r : Row) : Row := ⟨r.k, r.l, r.r, cnt all r.key⟩
def newK (a b : List Row) : List Row := b.filter fun q => decide (q.key ∉ a.map Row.key)
def tot (a b : List Row) : List Row := (a ++ newK a b).map (rt (a ++ b))
theorem rt_key (all : List Row) (r : Row) : (rt all r).key = r.key := rfl
theorem cnt_app (a b : List Row) (k : Ky) : cnt (a ++ b) k = cnt a k + cnt b k := by simp [cnt, List.filter_append, List.sum_append]
theorem cnt_one (q : Row) (k : Ky) : cnt [q] k = if q.key = k then q.o else 0 := by
  unfold cnt
  by_cases h : q.key = k
  · simp [h]
  · simp [h]
theorem cnt_none {rs : List Row} {k : Ky} (h : k ∉ rs.map Row.key) : cnt rs k = 0 := by
  have : (rs.filter fun r => decide (r.key = k)) = [] := List.filter_eq_nil_iff.mpr fun r hr z => h (List.mem_map.mpr ⟨r, hr, of_decide_eq_true z⟩)
  simp [cnt, this]
theorem cnt_mem : ∀ {rs : List Row} {r : Row}, (rs.map Row.key).Nodup → r ∈ rs → cnt rs r.key = r.o
  | a :: rs, r, nd, h => by
    rw [List.map_cons, List.nodup_cons] at nd
    have e : cnt (a :: rs) r.key = cnt [a] r.key + cnt rs r.key := cnt_app [a] rs r.key
    rw [e, cnt_one]
    rcases List.mem_cons.mp h with rfl | h
    · rw [if_pos rfl, cnt_none nd.1]; omega
    · rw [if_neg fun z => nd.1 (by rw [z]; exact List.mem_map.mpr ⟨r, h, rfl⟩), cnt_mem nd.2 h]; omega
theorem tot_nil {a : List Row} (nd : (a.map Row.key).Nodup) : tot a [] = a := by
  unfold tot newK
  simp only [List.filter_nil, List.append_nil]
  conv => rhs; rw [← List.map_id a]
  exact List.map_congr_left fun r hr => by
    show rt a r = r
    unfold rt
    rw [cnt_mem nd hr]
theorem tot_keys (a b : List Row) : (tot a b).map Row.key = (a ++ newK a b).map Row.key := by
  unfold tot
  rw [List.map_map]
  rfl
theorem newK_app (a b c : List Row) : newK a (b ++ c) = newK a b ++ newK a c := List.filter_append ..
/-- one row more -/
def stepR (f : List Row) (x : Row) (n : Int) : List Row := if (f.any fun r => decide (r.key = x.key)) = true then f.map fun r => if r.key = x.key then ⟨r.k, r.l, r.r, n⟩ else r else f ++ [⟨x.k, x.l, x.r, n⟩]
theorem tot_step {a b : List Row} {x : Row} (hx : x.key ∉ b.map Row.key) : tot a (b ++ [x]) = stepR (tot a b) x (cnt (a ++ b) x.key + x.o) := by
  have cx : ∀ k, cnt (a ++ (b ++ [x])) k = cnt (a ++ b) k + if x.key = k then x.o else 0 := fun k => by
    rw [← List.append_assoc, cnt_app (a ++ b) [x], cnt_one]
  have pt : ∀ r : Row, r.key ≠ x.key → rt (a ++ (b ++ [x])) r = rt (a ++ b) r := fun r h => by
    unfold rt
    rw [cx, if_neg (Ne.symm h), Int.add_zero]
  unfold stepR
  by_cases ha : x.key ∈ a.map Row.key
  · have n1 : newK a [x] = [] := by
      unfold newK
      exact List.filter_eq_nil_iff.mpr fun r hr z => by
        rw [List.mem_singleton.mp hr] at z
        exact of_decide_eq_true z ha
    have an : ((tot a b).any fun r => decide (r.key = x.key)) = true := by
      obtain ⟨r, hr, e⟩ := List.mem_map.mp ha
      rw [List.any_eq_true]
      exact ⟨rt (a ++ b) r, List.mem_map.mpr ⟨r, List.mem_append.mpr (.inl hr), rfl⟩, by rw [rt_key]; exact decide_eq_true e⟩
    rw [if_pos an]
    unfold tot
    rw [newK_app, n1, List.append_nil, List.map_map]
    refine List.map_congr_left fun r hr => ?_
    simp only [Function.comp]
    by_cases e : r.key = x.key
    · rw [if_pos (by rw [rt_key]; exact e)]
      unfold rt
      rw [cx, e, if_pos rfl]
    · rw [if_neg (by rw [rt_key]; exact e)]
      exact pt r e
  · have n1 : newK a [x] = [x] := by
      unfold newK
      rw [List.filter_cons, if_pos (decide_eq_true ha)]
      rfl
    have kn : ∀ r ∈ a ++ newK a b, r.key ≠ x.key := fun r hr e => by
      rcases List.mem_append.mp hr with hr | hr
      · exact ha (by rw [← e]; exact List.mem_map.mpr ⟨r, hr, rfl⟩)
      · exact hx (by rw [← e]; exact List.mem_map.mpr ⟨r, (List.mem_filter.mp hr).1, rfl⟩)
    have an : ¬ ((tot a b).any fun r => decide (r.key = x.key)) = true := by
      rw [List.any_eq_true]
      rintro ⟨r, hr, e⟩
      obtain ⟨r', hr', rfl⟩ := List.mem_map.mp hr
      exact kn r' hr' (of_decide_eq_true e)
    rw [if_neg an]
    unfold tot
    have as : a ++ (newK a b ++ [x]) = (a ++ newK a b) ++ [x] := (List.append_assoc ..).symm
    rw [newK_app, n1, as, List.map_append]
    congr 1
    · exact List.map_congr_left fun r hr => pt r (kn r hr)
    · show [rt (a ++ (b ++ [x])) x] = _
      unfold rt
      rw [cx, if_pos rfl]
theorem tot_find (a b : List Row) (k : Ky) : (((tot a b).find? fun r => decide (r.key = k)).map Row.o).getD 0 = cnt (a ++ b) k := by
  cases h : (tot a b).find? fun r => decide (r.key = k) with
  | some r =>
    have e : r.key = k := by have := List.find?_some h; simpa using this
    obtain ⟨r', _, rfl⟩ := List.mem_map.mp (List.mem_of_find?_eq_some h)
    rw [← e]
    rfl
  | none =>
    have hn := List.find?_eq_none.mp h
    refine (cnt_none fun z => ?_).symm
    have : k ∈ (tot a b).map Row.key := by
      rw [tot_keys, List.map_append, List.mem_append]
      by_cases ha : k ∈ a.map Row.key
      · exact .inl ha
      · rw [List.map_append, List.mem_append] at z
        rcases z with z | z
        · exact .inl z
        · obtain ⟨r, hr, rfl⟩ := List.mem_map.mp z
          exact .inr (List.mem_map.mpr ⟨r, List.mem_filter.mpr ⟨hr, decide_eq_true ha⟩, rfl⟩)
    obtain ⟨r, hr, e⟩ := List.mem_map.mp this
    exact hn r hr (decide_eq_true e)
theorem tot_len (a b : List Row) : (tot a b).length ≤ a.length + b.length := by
  unfold tot newK
  rw [List.length_map, List.length_append]
  have := List.length_filter_le (fun q : Row => decide (q.key ∉ a.map Row.key)) b
  omega
/-! ### the dict of rows -/
def kK (x : Ky) : List Key := [.inr x.1, .inl x.2.1, .inl x.2.2]
theorem kK_inj {x y : Ky} : kK x = kK y ↔ x = y := by
  obtain ⟨a, b, c⟩ := x
  obtain ⟨d, e, f⟩ := y
  simp [kK]
def ent (r : Row) : List Key × D := (kK r.key, .int r.o)
theorem cut3D {ds : List D} : cutD ds none (some 3) = ds.take 3 := by
  have := cut3 (ds := ds)
  simpa [dSl] using this
theorem slK_row (r : Row) : dSlK r.d none (some 3) = some (.ktp (kK r.key)) := by
  simp only [dSlK, Row.d, cut3D]
  rfl
theorem any_ent (f : List Row) (k : Ky) : ((f.map ent).any fun kv => decide (kv.1 = kK k)) = f.any fun r => decide (r.key = k) := by
  rw [List.any_map]
  congr 1
  funext r
  simp only [Function.comp, ent, kK_inj]
theorem put_ent (f : List Row) (x : Row) (n : Int) : putD (f.map ent) (kK x.key) (.int n) = (stepR f x n).map ent := by
  unfold putD stepR
  rw [any_ent]
  by_cases c : (f.any fun r => decide (r.key = x.key)) = true
  · rw [if_pos c, if_pos c, List.map_map, List.map_map]
    refine List.map_congr_left fun r _ => ?_
    simp only [Function.comp]
    by_cases e : r.key = x.key
    · rw [if_pos (by show kK r.key = kK x.key; rw [e]), if_pos e]; rfl
    · rw [if_neg (by show ¬ kK r.key = kK x.key; rw [kK_inj]; exact e), if_neg e]
  · rw [if_neg c, if_neg c, List.map_append]; rfl
theorem get_ent (f : List Row) (k : Ky) : (getD (f.map ent) (kK k)).getD (.int 0) = .int (((f.find? fun r => decide (r.key = k)).map Row.o).getD 0) := by
  have e : getD (f.map ent) (kK k) = (f.find? fun r => decide (r.key = k)).map fun r => D.int r.o := by
    unfold getD
    rw [List.find?_map, Option.map_map]
    have : ((fun kv : List Key × D => decide (kv.1 = kK k)) ∘ ent) = fun r => decide (r.key = k) := by
      funext r
      simp only [Function.comp, ent, kK_inj]
    rw [this]
    rfl
  rw [e]
  cases f.find? fun r => decide (r.key = k) <;> rfl
theorem pairs_ent : ∀ rs : List Row, pairsD (rs.map fun r => .tup [.ktp (kK r.key), .int r.o]) = some (rs.map ent)
  | [] => rfl
  | r :: rs => by simp only [List.map_cons, pairsD, pairD, pairs_ent rs]; rfl
theorem merge_ent : ∀ (more acc : List Row), ((acc ++ more).map Row.key).Nodup → mergeD (acc.map ent) (more.map ent) = (acc ++ more).map ent
  | [], acc, _ => by rw [List.append_nil]; rfl
  | x :: more, acc, nd => by
    have nx : ¬ (acc.any fun r => decide (r.key = x.key)) = true := by
      rw [List.any_eq_true]
      rintro ⟨r, hr, e⟩
      rw [List.map_append, List.nodup_append] at nd
      exact nd.2.2 r.key (List.mem_map.mpr ⟨r, hr, rfl⟩) x.key (List.mem_map.mpr ⟨x, List.mem_cons_self, rfl⟩) (of_decide_eq_true e)
    have e : putD (acc.map ent) (kK x.key) (.int x.o) = (acc ++ [x]).map ent := by
      rw [put_ent, stepR, if_neg nx]
    have := merge_ent more (acc ++ [x]) (by rw [List.append_assoc]; exact nd)
    rw [List.append_assoc] at this
    show mergeD (putD (acc.map ent) (kK x.key) (.int x.o)) (more.map ent) = _
    rw [e]
    exact this
theorem dict_rows {rs : List Row} (nd : (rs.map Row.key).Nodup) : dDict [.lst (rs.map fun r => .tup [.ktp (kK r.key), .int r.o])] = some (.dit (rs.map ent)) := by
  simp only [dDict, pairs_ent, Option.map_some]
  have := merge_ent rs [] nd
  simp only [List.map_nil, List.nil_append] at this
  rw [this]
theorem added_step {p q : D} {f : List Row} {x : Row} {s4 s5 : Sl} (hl : f.length ≤ 10000) : b_added_2 [.im p, .im q, .ow (.dit (f.map ent)), .im x.d, s4, s5] =
    some (.ok .nx [.im p, .im q, .ow (.dit ((stepR f x (((f.find? fun r => decide (r.key = x.key)).map Row.o).getD 0 + x.o)).map ent)), .im x.d, s4, s5]) := by
  have g := get_ent f x.key
  have gf : fGet (.dit (f.map ent)) [.ktp (kK x.key), .int 0] = some (.int (((f.find? fun r => decide (r.key = x.key)).map Row.o).getD 0), .dit (f.map ent)) := by
    simp only [fGet, g]
  have sf : ∀ n : Int, fSetD (.dit (f.map ent)) [.ktp (kK x.key), .int n] = some (.non, .dit ((stepR f x n).map ent)) := fun n => by
    simp only [fSetD, put_ent]
    rw [if_pos (by simp; omega)]
  have ad : ∀ i j : Int, dAdd (.int i) (.int j) = some (.int (i + j)) := fun _ _ => rfl
  unfold b_added_2 mSetIx mSlK
  simp (config := { decide := false }) only [↓runDef, gOf, slotOf, endMs, ↓seqE, ↓bindE, bindO_ok, bindO_ex, bindO_none, seqO_nx, seqO_rt, seqO_rn, seqO_bk, seqO_ct, seqO_ex, seqO_none, ↓retE, ↓failE, ↓ifE, ↓andE, ↓andK_t, ↓andK_f, ↓orE, ↓orK_t, ↓orK_f, ↓andBE, ↓andBK_t, ↓andBK_f, ↓orBE, ↓orBK_t, ↓orBK_f, ↓chE, ↓chK_t, ↓chK_f, ifO_t, ifO_f, ↓mVa, ↓mFz, ↓mNm, ↓mFrz, ↓mOp2, ↓mOp1, ↓f2E, ↓f1E, ↓fsE, ansO_some, ansO_none, rdAll, Hd.rd, D.flat, ↓mCons, ↓mCall, ↓mTup, ↓mLst, ↓mFrzs, dBool, dadd, dsub, dgt, dMax2, dMin2, ↓mSet, ↓mSetN, ↓mSetIx, mKindN, isKindN, mWr, beq_self_eq_true, Sl.cell, Sl.put, ↓mFrzM, argDs, argD, apartB, putMu, ↓mCallF, ↓mCallN, Hd.isNm, nmu, List.cons_append, List.nil_append, List.length_cons, List.length_nil, List.replicate_succ, List.replicate_zero, List.getElem?_cons_zero, List.getElem?_cons_succ, List.set_cons_zero, List.set_cons_succ, List.any_nil, List.any_cons, Nat.reduceAdd, Nat.reduceSub, Nat.reduceBEq, if_true, if_false, Bool.false_eq_true, ↓reduceIte, Option.bind_some, Option.map_some, Bool.or_self, Bool.false_or, Bool.or_false, Bool.true_or, Bool.or_true, List.contains_nil, List.contains_cons, Bool.and_self, Bool.not_false, Bool.not_true, Bool.true_and, Bool.and_true, Bool.false_and, decide_true, decide_false, mWm, slK_row, dSome, gf, ix3r, ad, sf]
theorem added_ok {p q : D} {a b : List Row} (hp : Seq p (a.map Row.d)) (hq : Seq q (b.map Row.d)) (la : a.length ≤ 1000) (lb : b.length ≤ 1000) (na : (a.map Row.key).Nodup) (nb : (b.map Row.key).Nodup) :
    f_added [p, q] = some (.ret (.lst ((tot a b).map Row.d)) []) := by
  have hc : mLc (some 0) (mItN 0) [3] (tgNm 3) (M.ret true) e_added_1 [.im p, .im q, .un, .un, .un, .un] = some (.ok (.lst (a.map fun r => .tup [.ktp (kK r.key), .int r.o])) [.im p, .im q, .un, .un, .un, .un]) := by
    refine lc_map Row.d _ (itN_im rfl hp.it) rfl (by omega) rfl rfl fun r hr => ⟨_, rfl, ?_, rfl⟩
    unfold e_added_1 mSlK
    simp (config := { decide := false }) only [↓runDef, gOf, slotOf, endMs, ↓seqE, ↓bindE, bindO_ok, bindO_ex, bindO_none, seqO_nx, seqO_rt, seqO_rn, seqO_bk, seqO_ct, seqO_ex, seqO_none, ↓retE, ↓failE, ↓ifE, ↓andE, ↓andK_t, ↓andK_f, ↓orE, ↓orK_t, ↓orK_f, ↓andBE, ↓andBK_t, ↓andBK_f, ↓orBE, ↓orBK_t, ↓orBK_f, ↓chE, ↓chK_t, ↓chK_f, ifO_t, ifO_f, ↓mVa, ↓mFz, ↓mNm, ↓mFrz, ↓mOp2, ↓mOp1, ↓f2E, ↓f1E, ↓fsE, ansO_some, ansO_none, rdAll, Hd.rd, D.flat, ↓mCons, ↓mCall, ↓mTup, ↓mLst, ↓mFrzs, dBool, dadd, dsub, dgt, dMax2, dMin2, ↓mSet, ↓mSetN, ↓mSetIx, mKindN, isKindN, mWr, beq_self_eq_true, Sl.cell, Sl.put, ↓mFrzM, argDs, argD, apartB, putMu, ↓mCallF, ↓mCallN, Hd.isNm, nmu, List.cons_append, List.nil_append, List.length_cons, List.length_nil, List.replicate_succ, List.replicate_zero, List.getElem?_cons_zero, List.getElem?_cons_succ, List.set_cons_zero, List.set_cons_succ, List.any_nil, List.any_cons, Nat.reduceAdd, Nat.reduceSub, Nat.reduceBEq, if_true, if_false, Bool.false_eq_true, ↓reduceIte, Option.bind_some, Option.map_some, Bool.or_self, Bool.false_or, Bool.or_false, Bool.true_or, Bool.or_true, List.contains_nil, List.contains_cons, Bool.and_self, Bool.not_false, Bool.not_true, Bool.true_and, Bool.and_true, Bool.false_and, decide_true, decide_false, lendOut, wipeG, dSome, slK_row, ix3r, lit2]
  have dd := dict_rows na
  have hf : ∃ z3, mFor (some 1) (mItN 1) (tgNm 3) b_added_2 [.im p, .im q, .ow (.dit (a.map ent)), .un, .un, .un] = some (.ok .nx [.im p, .im q, .ow (.dit ((tot a b).map ent)), z3, .un, .un]) := by
    rw [for_im (ds := b.map Row.d) rfl hq.it]
    obtain ⟨g', h1, xs', b1, z3, e0, h2, rfl⟩ := forL_run (T := tgNm 3) (body := b_added_2) (fun rr g => ∃ (xs' b1 : List Row) (z3 : Sl), rr = xs'.map Row.d ∧ b1 ++ xs' = b ∧
        g = [.im p, .im q, .ow (.dit ((tot a b1).map ent)), z3, .un, .un]) (ds := b.map Row.d) (g := [.im p, .im q, .ow (.dit (a.map ent)), .un, .un, .un])
      ⟨b, [], _, rfl, rfl, by rw [tot_nil na]⟩ fun d rr g ⟨xs', b1, z3, e0, h2, eg⟩ => by
        subst eg
        cases xs' with
        | nil => cases e0
        | cons x xs' =>
          simp only [List.map_cons, List.cons.injEq] at e0
          obtain ⟨rfl, rfl⟩ := e0
          have hx : x.key ∉ b1.map Row.key := fun z => by
            rw [← h2, List.map_append, List.nodup_append] at nb
            exact nb.2.2 _ z _ (List.mem_map.mpr ⟨x, List.mem_cons_self, rfl⟩) rfl
          have lt := tot_len a b1
          have lb1 : b1.length + (xs'.length + 1) = b.length := by rw [← h2]; simp
          refine ⟨_, _, rfl, added_step (f := tot a b1) (x := x) (by omega), xs', b1 ++ [x], .im x.d, rfl, by rw [List.append_assoc]; exact h2, ?_⟩
          rw [tot_find, ← tot_step hx]
    have : xs' = [] := by cases xs' with | nil => rfl | cons x xs' => cases e0
    subst this
    rw [List.append_nil] at h2
    subst h2
    exact ⟨z3, by rw [h1]⟩
  obtain ⟨z3, hf⟩ := hf
  have hi : mLcI 2 [4, 5] (tgTup 2 (tgCons (tgNm 4) (tgCons (tgNm 5) tgNil))) e_added_3 [.im p, .im q, .ow (.dit ((tot a b).map ent)), z3, .un, .un] = some (.ok (.lst ((tot a b).map Row.d)) [.im p, .im q, .ow (.dit ((tot a b).map ent)), z3, .un, .un]) := by
    have lt := tot_len a b
    have h : mLc none (M.ret ((tot a b).map fun r => itemD (ent r))) [4, 5] (tgTup 2 (tgCons (tgNm 4) (tgCons (tgNm 5) tgNil))) (M.ret true) e_added_3 [.im p, .im q, .un, z3, .un, .un] = some (.ok (.lst ((tot a b).map Row.d)) [.im p, .im q, .un, z3, .un, .un]) := by
      refine lc_map (fun r => itemD (ent r)) Row.d rfl rfl (by omega) rfl rfl fun r hr => ⟨[.im p, .im q, .un, z3, .im (kd r.key), .im (.int r.o)], rfl, ?_, rfl⟩
      have ar := add_row r.key r.o
      unfold e_added_3
      simp (config := { decide := false }) only [↓runDef, gOf, slotOf, endMs, ↓seqE, ↓bindE, bindO_ok, bindO_ex, bindO_none, seqO_nx, seqO_rt, seqO_rn, seqO_bk, seqO_ct, seqO_ex, seqO_none, ↓retE, ↓failE, ↓ifE, ↓andE, ↓andK_t, ↓andK_f, ↓orE, ↓orK_t, ↓orK_f, ↓andBE, ↓andBK_t, ↓andBK_f, ↓orBE, ↓orBK_t, ↓orBK_f, ↓chE, ↓chK_t, ↓chK_f, ifO_t, ifO_f, ↓mVa, ↓mFz, ↓mNm, ↓mFrz, ↓mOp2, ↓mOp1, ↓f2E, ↓f1E, ↓fsE, ansO_some, ansO_none, rdAll, Hd.rd, D.flat, ↓mCons, ↓mCall, ↓mTup, ↓mLst, ↓mFrzs, dBool, dadd, dsub, dgt, dMax2, dMin2, ↓mSet, ↓mSetN, ↓mSetIx, mKindN, isKindN, mWr, beq_self_eq_true, Sl.cell, Sl.put, ↓mFrzM, argDs, argD, apartB, putMu, ↓mCallF, ↓mCallN, Hd.isNm, nmu, List.cons_append, List.nil_append, List.length_cons, List.length_nil, List.replicate_succ, List.replicate_zero, List.getElem?_cons_zero, List.getElem?_cons_succ, List.set_cons_zero, List.set_cons_succ, List.any_nil, List.any_cons, Nat.reduceAdd, Nat.reduceSub, Nat.reduceBEq, if_true, if_false, Bool.false_eq_true, ↓reduceIte, Option.bind_some, Option.map_some, Bool.or_self, Bool.false_or, Bool.or_false, Bool.true_or, Bool.or_true, List.contains_nil, List.contains_cons, Bool.and_self, Bool.not_false, Bool.not_true, Bool.true_and, Bool.and_true, Bool.false_and, decide_true, decide_false, lit1, ar]
      rfl
    have h : mLcR none [4, 5] (tgTup 2 (tgCons (tgNm 4) (tgCons (tgNm 5) tgNil))) (M.ret true) e_added_3 ((tot a b).map fun r => itemD (ent r)) [.im p, .im q, .un, z3, .un, .un] = _ := h
    have mm : ((tot a b).map ent).map itemD = (tot a b).map fun r => itemD (ent r) := by rw [List.map_map]; rfl
    unfold mLcI
    simp only [List.getElem?_cons_succ, List.getElem?_cons_zero, mm, List.set_cons_succ, List.set_cons_zero, h]
  unfold f_added m_added
  simp (config := { decide := false }) only [↓runDef, gOf, slotOf, endMs, ↓seqE, ↓bindE, bindO_ok, bindO_ex, bindO_none, seqO_nx, seqO_rt, seqO_rn, seqO_bk, seqO_ct, seqO_ex, seqO_none, ↓retE, ↓failE, ↓ifE, ↓andE, ↓andK_t, ↓andK_f, ↓orE, ↓orK_t, ↓orK_f, ↓andBE, ↓andBK_t, ↓andBK_f, ↓orBE, ↓orBK_t, ↓orBK_f, ↓chE, ↓chK_t, ↓chK_f, ifO_t, ifO_f, ↓mVa, ↓mFz, ↓mNm, ↓mFrz, ↓mOp2, ↓mOp1, ↓f2E, ↓f1E, ↓fsE, ansO_some, ansO_none, rdAll, Hd.rd, D.flat, ↓mCons, ↓mCall, ↓mTup, ↓mLst, ↓mFrzs, dBool, dadd, dsub, dgt, dMax2, dMin2, ↓mSet, ↓mSetN, ↓mSetIx, mKindN, isKindN, mWr, beq_self_eq_true, Sl.cell, Sl.put, ↓mFrzM, argDs, argD, apartB, putMu, ↓mCallF, ↓mCallN, Hd.isNm, nmu, List.cons_append, List.nil_append, List.length_cons, List.length_nil, List.replicate_succ, List.replicate_zero, List.getElem?_cons_zero, List.getElem?_cons_succ, List.set_cons_zero, List.set_cons_succ, List.any_nil, List.any_cons, Nat.reduceAdd, Nat.reduceSub, Nat.reduceBEq, if_true, if_false, Bool.false_eq_true, ↓reduceIte, Option.bind_some, Option.map_some, Bool.or_self, Bool.false_or, Bool.or_false, Bool.true_or, Bool.or_true, List.contains_nil, List.contains_cons, Bool.and_self, Bool.not_false, Bool.not_true, Bool.true_and, Bool.and_true, Bool.false_and, decide_true, decide_false, hc, dd, hf, hi]
def addR (a b : List Row) : Option FR := tofR (tot a b)
theorem add_ok {a b : List Row} (ha : Good a) (hb : Good b) : f_Table___add [tb a, tb b] = addR a b := by
  have la := ha.len
  have lb := hb.len
  have nt := need_ok b
  have f0 := tb_fld (rs := a) (g := [.im (tb a), .im (tb b)]) (i := 0) rfl
  have p1 := tb_rowsN (rs := b) (g := [.im (tb a), .im (tb b)]) (i := 1) rfl
  have ad := added_ok (p := .tup (a.map Row.d)) (q := .tup (b.map Row.d)) (a := a) (b := b) (.inr rfl) (.inr rfl) (by omega) (by omega) ha.nd hb.nd
  have t := tof_any (tot a b)
  unfold f_Table___add m_Table___add addR
  unfold tofR at t ⊢
  cases g : goodB (tot a b) with
  | true =>
    simp only [g, if_true] at t ⊢
    simp (config := { decide := false }) only [↓runDef, gOf, slotOf, endMs, ↓seqE, ↓bindE, bindO_ok, bindO_ex, bindO_none, seqO_nx, seqO_rt, seqO_rn, seqO_bk, seqO_ct, seqO_ex, seqO_none, ↓retE, ↓failE, ↓ifE, ↓andE, ↓andK_t, ↓andK_f, ↓orE, ↓orK_t, ↓orK_f, ↓andBE, ↓andBK_t, ↓andBK_f, ↓orBE, ↓orBK_t, ↓orBK_f, ↓chE, ↓chK_t, ↓chK_f, ifO_t, ifO_f, ↓mVa, ↓mFz, ↓mNm, ↓mFrz, ↓mOp2, ↓mOp1, ↓f2E, ↓f1E, ↓fsE, ansO_some, ansO_none, rdAll, Hd.rd, D.flat, ↓mCons, ↓mCall, ↓mTup, ↓mLst, ↓mFrzs, dBool, dadd, dsub, dgt, dMax2, dMin2, ↓mSet, ↓mSetN, ↓mSetIx, mKindN, isKindN, mWr, beq_self_eq_true, Sl.cell, Sl.put, ↓mFrzM, argDs, argD, apartB, putMu, ↓mCallF, ↓mCallN, Hd.isNm, nmu, List.cons_append, List.nil_append, List.length_cons, List.length_nil, List.replicate_succ, List.replicate_zero, List.getElem?_cons_zero, List.getElem?_cons_succ, List.set_cons_zero, List.set_cons_succ, List.any_nil, List.any_cons, Nat.reduceAdd, Nat.reduceSub, Nat.reduceBEq, if_true, if_false, Bool.false_eq_true, ↓reduceIte, Option.bind_some, Option.map_some, Bool.or_self, Bool.false_or, Bool.or_false, Bool.true_or, Bool.or_true, List.contains_nil, List.contains_cons, Bool.and_self, Bool.not_false, Bool.not_true, Bool.true_and, Bool.and_true, Bool.false_and, decide_true, decide_false, nt, f0, p1, ad, t]
  | false =>
    simp only [g, Bool.false_eq_true, if_false] at t ⊢
    simp (config := { decide := false }) only [↓runDef, gOf, slotOf, endMs, ↓seqE, ↓bindE, bindO_ok, bindO_ex, bindO_none, seqO_nx, seqO_rt, seqO_rn, seqO_bk, seqO_ct, seqO_ex, seqO_none, ↓retE, ↓failE, ↓ifE, ↓andE, ↓andK_t, ↓andK_f, ↓orE, ↓orK_t, ↓orK_f, ↓andBE, ↓andBK_t, ↓andBK_f, ↓orBE, ↓orBK_t, ↓orBK_f, ↓chE, ↓chK_t, ↓chK_f, ifO_t, ifO_f, ↓mVa, ↓mFz, ↓mNm, ↓mFrz, ↓mOp2, ↓mOp1, ↓f2E, ↓f1E, ↓fsE, ansO_some, ansO_none, rdAll, Hd.rd, D.flat, ↓mCons, ↓mCall, ↓mTup, ↓mLst, ↓mFrzs, dBool, dadd, dsub, dgt, dMax2, dMin2, ↓mSet, ↓mSetN, ↓mSetIx, mKindN, isKindN, mWr, beq_self_eq_true, Sl.cell, Sl.put, ↓mFrzM, argDs, argD, apartB, putMu, ↓mCallF, ↓mCallN, Hd.isNm, nmu, List.cons_append, List.nil_append, List.length_cons, List.length_nil, List.replicate_succ, List.replicate_zero, List.getElem?_cons_zero, List.getElem?_cons_succ, List.set_cons_zero, List.set_cons_succ, List.any_nil, List.any_cons, Nat.reduceAdd, Nat.reduceSub, Nat.reduceBEq, if_true, if_false, Bool.false_eq_true, ↓reduceIte, Option.bind_some, Option.map_some, Bool.or_self, Bool.false_or, Bool.or_false, Bool.true_or, Bool.or_true, List.contains_nil, List.contains_cons, Bool.and_self, Bool.not_false, Bool.not_true, Bool.true_and, Bool.and_true, Bool.false_and, decide_true, decide_false, nt, f0, p1, ad, t]
end Cq.Sh

set_option Elab.async false
set_option linter.all false
set_option maxRecDepth 100000
set_option maxHeartbeats 1000000
namespace Cq.Sh
open PySem PyProof.Rows L2 Cq
/-! ### the law's two loops -/
theorem laps_gen {b4 : M Fl} {i3 : M (List D)} {n m : Nat} {s0 s1 : Sl} (hi3 : ∀ g, i3 g = some (.ok (rngD 0 n) g))
    (hb : ∀ (s : So) (s3 : Sl) (rest : List Sl), rest.length = m → ∃ s' rest', rest'.length = m ∧ b4 (s0 :: s1 :: .ow (so s) :: s3 :: rest) = some (.ok .nx (s0 :: s1 :: .ow (so s') :: s3 :: rest')))
    (s : So) (s3 : Sl) (rest : List Sl) (hr : rest.length = m) : ∃ s' s3' rest', rest'.length = m ∧ mFor none i3 (tgNm 3) b4 (s0 :: s1 :: .ow (so s) :: s3 :: rest) = some (.ok .nx (s0 :: s1 :: .ow (so s') :: s3' :: rest')) := by
  rw [for_st (hi3 _)]
  obtain ⟨g', h1, s', s3', rest', hr', rfl⟩ := forL_run (T := tgNm 3) (body := b4) (fun r g => ∃ s' s3' rest', rest'.length = m ∧ g = s0 :: s1 :: .ow (so s') :: s3' :: rest') (ds := rngD 0 n)
    ⟨s, s3, rest, hr, rfl⟩ fun d r g ⟨s', s3', rest', hr', eg⟩ => by
      subst eg
      obtain ⟨t, rest2, hr2, e⟩ := hb s' (.im d) rest' hr'
      exact ⟨_, _, rfl, e, t, _, rest2, hr2, rfl⟩
  exact ⟨s', s3', rest', hr', h1⟩
theorem law_gen {b4 b6 : M Fl} {i3 i5 : M (List D)} {n m : Nat} {cells : Int} (hc0 : 1 ≤ cells ∧ cells ≤ 100) (ns : List Int) (hi3 : ∀ g, i3 g = some (.ok (rngD 0 n) g))
    (hi5 : ∀ g : Gm, g[0]? = some (.im (.scr ns)) → i5 g = some (.ok (rngD 0 (max 1 (min (ns.length : Int) cells)).toNat) g))
    (h6 : b6 = mSeq (mSetN 2 ((mCons (mVa ((mCons (mNm 0) (mCons (mNm 1) (M.ret []))).bind (mCallF [.im, .im] f_x_law_cell))) (M.ret [])).bind (mCallN [.im] f_x_law_source))) (mFor none i3 (tgNm 3) b4))
    (hb : ∀ (s1 : Sl) (s : So) (s3 : Sl) (rest : List Sl), rest.length = m → ∃ s' rest', rest'.length = m ∧ b4 (.im (.scr ns) :: s1 :: .ow (so s) :: s3 :: rest) = some (.ok .nx (.im (.scr ns) :: s1 :: .ow (so s') :: s3 :: rest'))) :
    ∃ rest', rest'.length = m + 3 ∧ mFor none i5 (tgNm 1) b6 (.im (.scr ns) :: .un :: .un :: .un :: List.replicate m .un) = some (.ok .nx (.im (.scr ns) :: rest')) := by
  rw [for_st (hi5 _ rfl)]
  obtain ⟨g', h1, _, s1, s2, s3, rest', hr', rfl⟩ := forL_run (T := tgNm 1) (body := b6) (fun r g => (∀ d ∈ r, ∃ i : Nat, d = .int (0 + (i : Int))) ∧ ∃ s1 s2 s3 rest', rest'.length = m ∧ g = .im (.scr ns) :: s1 :: s2 :: s3 :: rest') (ds := rngD 0 (max 1 (min (ns.length : Int) cells)).toNat)
    (g := .im (.scr ns) :: .un :: .un :: .un :: List.replicate m .un) ⟨fun d hd => (mem_rng hd).imp fun _ z => z.2, _, _, _, _, List.length_replicate, rfl⟩ fun d r g ⟨hd, s1, s2, s3, rest', hr', eg⟩ => by
      subst eg
      obtain ⟨i, rfl⟩ := hd d List.mem_cons_self
      obtain ⟨v, hv⟩ := cell_ok ns (0 + (i : Int)) (by omega)
      obtain ⟨s, hs⟩ := source_ok v
      obtain ⟨s', s3', rest2, hr2, e⟩ := laps_gen (s0 := .im (.scr ns)) (s1 := .im (.int (0 + (i : Int)))) hi3 (hb _) s s3 rest' hr'
      refine ⟨_, .im (.scr ns) :: .im (.int (0 + (i : Int))) :: .ow (so s') :: s3' :: rest2, rfl, ?_, fun d' hd' => hd d' (List.mem_cons_of_mem _ hd'), _, _, _, _, hr2, rfl⟩
      show b6 (.im (.scr ns) :: .im (.int (0 + (i : Int))) :: s2 :: s3 :: rest') = _
      rw [h6]
      simp (config := { decide := false }) only [↓runDef, gOf, slotOf, endMs, ↓seqE, ↓bindE, bindO_ok, bindO_ex, bindO_none, seqO_nx, seqO_rt, seqO_rn, seqO_bk, seqO_ct, seqO_ex, seqO_none, ↓retE, ↓failE, ↓ifE, ↓andE, ↓andK_t, ↓andK_f, ↓orE, ↓orK_t, ↓orK_f, ↓andBE, ↓andBK_t, ↓andBK_f, ↓orBE, ↓orBK_t, ↓orBK_f, ↓chE, ↓chK_t, ↓chK_f, ifO_t, ifO_f, ↓mVa, ↓mFz, ↓mNm, ↓mFrz, ↓mOp2, ↓mOp1, ↓f2E, ↓f1E, ↓fsE, ansO_some, ansO_none, rdAll, Hd.rd, D.flat, ↓mCons, ↓mCall, ↓mTup, ↓mLst, ↓mFrzs, dBool, dadd, dsub, dgt, dMax2, dMin2, ↓mSet, ↓mSetN, ↓mSetIx, mKindN, isKindN, mWr, beq_self_eq_true, Sl.cell, Sl.put, ↓mFrzM, argDs, argD, apartB, putMu, ↓mCallF, ↓mCallN, Hd.isNm, nmu, List.cons_append, List.nil_append, List.length_cons, List.length_nil, List.replicate_succ, List.replicate_zero, List.getElem?_cons_zero, List.getElem?_cons_succ, List.set_cons_zero, List.set_cons_succ, List.any_nil, List.any_cons, Nat.reduceAdd, Nat.reduceSub, Nat.reduceBEq, if_true, if_false, Bool.false_eq_true, ↓reduceIte, Option.bind_some, Option.map_some, Bool.or_self, Bool.false_or, Bool.or_false, Bool.true_or, Bool.or_true, List.contains_nil, List.contains_cons, Bool.and_self, Bool.not_false, Bool.not_true, Bool.true_and, Bool.and_true, Bool.false_and, decide_true, decide_false, hv, hs, e]
  exact ⟨s1 :: s2 :: s3 :: rest', by simp [hr'], h1⟩
theorem rng_small {n : Int} (h0 : 0 ≤ n) (h : n ≤ 100) : rng1 [.int n] = some (rngD 0 n.toNat) := rng_nat ⟨Int.le_trans (by decide) h0, Int.lt_of_le_of_lt h (by decide)⟩
theorem i5_gen {ns : List Int} (hl : ns.length ≤ 63) {cells : Int} (hc : 1 ≤ cells ∧ cells ≤ 100) (g : Gm) (hg : g[0]? = some (.im (.scr ns))) :
    mSrc rng1 (mCons (mVa (mCall dMax2 (mCons (mVa (M.ret (.int 1))) (mCons (mVa (mCall dMin2 (mCons (mVa (mCall dLen (mCons (mNm 0) (M.ret [])))) (mCons (mVa (M.ret (.int cells))) (M.ret []))))) (M.ret []))))) (M.ret [])) g = some (.ok (rngD 0 (max 1 (min (ns.length : Int) cells)).toNat) g) := by
  have hlen : dLen [.scr ns] = some (.int ns.length) := rfl
  have h1 : (0 : Int) ≤ max 1 (min (ns.length : Int) cells) ∧ max 1 (min (ns.length : Int) cells) ≤ 100 := by omega
  have hr := rng_small h1.1 h1.2
  unfold mSrc
  simp (config := { decide := false }) only [↓runDef, gOf, slotOf, endMs, ↓seqE, ↓bindE, bindO_ok, bindO_ex, bindO_none, seqO_nx, seqO_rt, seqO_rn, seqO_bk, seqO_ct, seqO_ex, seqO_none, ↓retE, ↓failE, ↓ifE, ↓andE, ↓andK_t, ↓andK_f, ↓orE, ↓orK_t, ↓orK_f, ↓andBE, ↓andBK_t, ↓andBK_f, ↓orBE, ↓orBK_t, ↓orBK_f, ↓chE, ↓chK_t, ↓chK_f, ifO_t, ifO_f, ↓mVa, ↓mFz, ↓mNm, ↓mFrz, ↓mOp2, ↓mOp1, ↓f2E, ↓f1E, ↓fsE, ansO_some, ansO_none, rdAll, Hd.rd, D.flat, ↓mCons, ↓mCall, ↓mTup, ↓mLst, ↓mFrzs, dBool, dadd, dsub, dgt, dMax2, dMin2, ↓mSet, ↓mSetN, ↓mSetIx, mKindN, isKindN, mWr, beq_self_eq_true, Sl.cell, Sl.put, ↓mFrzM, argDs, argD, apartB, putMu, ↓mCallF, ↓mCallN, Hd.isNm, nmu, List.cons_append, List.nil_append, List.length_cons, List.length_nil, List.replicate_succ, List.replicate_zero, List.getElem?_cons_zero, List.getElem?_cons_succ, List.set_cons_zero, List.set_cons_succ, List.any_nil, List.any_cons, Nat.reduceAdd, Nat.reduceSub, Nat.reduceBEq, if_true, if_false, Bool.false_eq_true, ↓reduceIte, Option.bind_some, Option.map_some, Bool.or_self, Bool.false_or, Bool.or_false, Bool.true_or, Bool.or_true, List.contains_nil, List.contains_cons, Bool.and_self, Bool.not_false, Bool.not_true, Bool.true_and, Bool.and_true, Bool.false_and, decide_true, decide_false, hg, hlen, hr]
theorem i3_gen {v : Int} (h0 : 0 ≤ v) (h : v ≤ 100) (g : Gm) : mSrc rng1 (mCons (mVa (M.ret (.int v))) (M.ret [])) g = some (.ok (rngD 0 v.toNat) g) := by
  have := rng_small h0 h
  unfold mSrc
  simp (config := { decide := false }) only [↓runDef, gOf, slotOf, endMs, ↓seqE, ↓bindE, bindO_ok, bindO_ex, bindO_none, seqO_nx, seqO_rt, seqO_rn, seqO_bk, seqO_ct, seqO_ex, seqO_none, ↓retE, ↓failE, ↓ifE, ↓andE, ↓andK_t, ↓andK_f, ↓orE, ↓orK_t, ↓orK_f, ↓andBE, ↓andBK_t, ↓andBK_f, ↓orBE, ↓orBK_t, ↓orBK_f, ↓chE, ↓chK_t, ↓chK_f, ifO_t, ifO_f, ↓mVa, ↓mFz, ↓mNm, ↓mFrz, ↓mOp2, ↓mOp1, ↓f2E, ↓f1E, ↓fsE, ansO_some, ansO_none, rdAll, Hd.rd, D.flat, ↓mCons, ↓mCall, ↓mTup, ↓mLst, ↓mFrzs, dBool, dadd, dsub, dgt, dMax2, dMin2, ↓mSet, ↓mSetN, ↓mSetIx, mKindN, isKindN, mWr, beq_self_eq_true, Sl.cell, Sl.put, ↓mFrzM, argDs, argD, apartB, putMu, ↓mCallF, ↓mCallN, Hd.isNm, nmu, List.cons_append, List.nil_append, List.length_cons, List.length_nil, List.replicate_succ, List.replicate_zero, List.getElem?_cons_zero, List.getElem?_cons_succ, List.set_cons_zero, List.set_cons_succ, List.any_nil, List.any_cons, Nat.reduceAdd, Nat.reduceSub, Nat.reduceBEq, if_true, if_false, Bool.false_eq_true, ↓reduceIte, Option.bind_some, Option.map_some, Bool.or_self, Bool.false_or, Bool.or_false, Bool.true_or, Bool.or_true, List.contains_nil, List.contains_cons, Bool.and_self, Bool.not_false, Bool.not_true, Bool.true_and, Bool.and_true, Bool.false_and, decide_true, decide_false, this]
end Cq.Sh

set_option Elab.async false
set_option linter.all false
set_option maxRecDepth 100000
set_option maxHeartbeats 2000000
namespace Cq.Sh
open PySem PyProof.Rows L2 Cq
/-! ### what may be shown by the deep repr, empty dicts too -/
mutual
def okR : D → Bool
  | .non => true
  | .bl _ => true
  | .int i => decide (i.natAbs < 2 ^ 64)
  | .str _ => true
  | .tup xs => okRs xs
  | .lst xs => okRs xs
  | .dik [] => true
  | _ => false
def okRs : List D → Bool
  | [] => true
  | d :: ds => okR d && okRs ds
end
mutual
def szR : D → Nat
  | .str x => (reprText x).length
  | .tup xs => szRs xs + 3
  | .lst xs => szRs xs + 3
  | _ => 25
def szRs : List D → Nat
  | [] => 0
  | d :: ds => szR d + szRs ds + 2
end
mutual
def dpR : D → Nat
  | .tup xs => dpRs xs + 1
  | .lst xs => dpRs xs + 1
  | .dik _ => 1
  | _ => 0
def dpRs : List D → Nat
  | [] => 0
  | d :: ds => max (dpR d) (dpRs ds)
end
mutual
theorem okR_py : ∀ {d : D}, okR d = true → ∃ p, d.pyd = some p ∧ p.showable = true ∧ p.shown.length ≤ szR d ∧ p.depth ≤ dpR d
  | .non, _ => ⟨.none, by simp only [D.pyd], rfl, by decide, Nat.zero_le _⟩
  | .bl b, _ => ⟨.bool b, by simp only [D.pyd], rfl, by cases b <;> decide, Nat.zero_le _⟩
  | .int i, h => ⟨.int i, by simp only [D.pyd], by
      simp only [okR, decide_eq_true_eq] at h
      have := log64 h
      simp [PyData.showable, this], by simp only [okR, decide_eq_true_eq] at h; exact int_len h, Nat.zero_le _⟩
  | .str x, _ => ⟨.str x, by simp only [D.pyd], by simp [PyData.showable], by simp only [PyData.shown, szR]; exact Nat.le_refl _, Nat.zero_le _⟩
  | .tup xs, h => by
    simp only [okR] at h
    obtain ⟨ps, e, a, b, c⟩ := okRs_py h
    refine ⟨.tuple ps, by simp only [D.pyd, e, Option.map_some], by simp only [PyData.showable]; exact a, ?_, ?_⟩
    · simp only [PyData.shown, szR]
      have := tupleText_len_le (PyData.shownAll ps)
      have := PyData.shownAll_length ps
      omega
    · simp only [PyData.depth, dpR]; omega
  | .lst xs, h => by
    simp only [okR] at h
    obtain ⟨ps, e, a, b, c⟩ := okRs_py h
    refine ⟨.list ps, by simp only [D.pyd, e, Option.map_some], by simp only [PyData.showable]; exact a, ?_, ?_⟩
    · simp only [PyData.shown, szR]
      have := listText_len_le (PyData.shownAll ps)
      have := PyData.shownAll_length ps
      omega
    · simp only [PyData.depth, dpR]; omega
  | .dik [], _ => ⟨.dict [], by simp only [D.pyd, pydK, Option.map_some], by simp [PyData.showable, PyData.showableKv], by decide +kernel, by simp [PyData.depth, PyData.depthKv, dpR]⟩
  | .dik (_ :: _), h => by simp [okR] at h
  | .dit _, h => by simp [okR] at h
  | .ins _ _, h => by simp [okR] at h
  | .scr _, h => by simp [okR] at h
  | .glo _, h => by simp [okR] at h
  | .ktp _, h => by simp [okR] at h
theorem okRs_py : ∀ {ds : List D}, okRs ds = true → ∃ ps, pydL ds = some ps ∧ PyData.showableAll ps = true ∧ ((PyData.shownAll ps).map (·.length)).sum + 2 * ps.length ≤ szRs ds ∧ PyData.depthAll ps ≤ dpRs ds
  | [], _ => ⟨[], by simp only [pydL], rfl, by simp [PyData.shownAll], by simp [PyData.depthAll]⟩
  | d :: ds, h => by
    simp only [okRs, Bool.and_eq_true] at h
    obtain ⟨p, e, a, b, c⟩ := okR_py h.1
    obtain ⟨ps, e', a', b', c'⟩ := okRs_py h.2
    refine ⟨p :: ps, by simp only [pydL, e, e'], by simp only [PyData.showableAll, a, a', Bool.and_self], ?_, ?_⟩
    · simp only [PyData.shownAll, List.map_cons, List.sum_cons, List.length_cons, szRs]; omega
    · simp only [PyData.depthAll, dpRs]; omega
end
structure Vr (x : D) : Prop where
  r : okR x = true
  s : szR x ≤ 500
  d : dpR x ≤ 4
/-! ### the length, the text, the operators of an instance, by any meaning -/
end Cq.Sh

set_option Elab.async false
set_option linter.all false
set_option maxRecDepth 100000
set_option maxHeartbeats 1000000
namespace Cq.K08
open PySem PyProof.Rows L2 Cq Cq.Sh
/-! ### tables with bounds -/
structure Tn (n : Nat) (v o : Int) (rs : List Row) : Prop where
  len : rs.length ≤ n
  kk : ∀ r ∈ rs, r.k ∈ kinds
  l0 : ∀ r ∈ rs, 0 ≤ r.l ∧ r.l ≤ v
  r0 : ∀ r ∈ rs, 0 ≤ r.r ∧ r.r ≤ v
  o0 : ∀ r ∈ rs, 1 ≤ r.o ∧ r.o ≤ o
  nd : (rs.map Row.key).Nodup
theorem Tn.good {n : Nat} {v o : Int} {rs : List Row} (h : Tn n v o rs) (hn : n ≤ 12) (hv : v ≤ 99) (ho : o ≤ 10000) : Good rs :=
  ⟨Nat.le_trans h.len hn, fun r hr => by
    have a := h.l0 r hr
    have b := h.r0 r hr
    have c := h.o0 r hr
    exact ⟨h.kk r hr, a.1, by omega, b.1, by omega, c.1, by omega⟩, h.nd⟩
theorem Tn.perm {n : Nat} {v o : Int} {a b : List Row} (h : Tn n v o a) (p : b.Perm a) : Tn n v o b :=
  ⟨p.length_eq ▸ h.len, fun r hr => h.kk r (p.mem_iff.mp hr), fun r hr => h.l0 r (p.mem_iff.mp hr), fun r hr => h.r0 r (p.mem_iff.mp hr), fun r hr => h.o0 r (p.mem_iff.mp hr), (p.map Row.key).nodup_iff.mpr h.nd⟩
theorem Tn.mono {n m : Nat} {v u o q : Int} {a : List Row} (h : Tn n v o a) (hn : n ≤ m) (hv : v ≤ u) (ho : o ≤ q) : Tn m u q a :=
  ⟨Nat.le_trans h.len hn, h.kk, fun r hr => by have := h.l0 r hr; omega, fun r hr => by have := h.r0 r hr; omega, fun r hr => by have := h.o0 r hr; omega, h.nd⟩
theorem sum_perm {l m : List Int} (h : l.Perm m) : l.sum = m.sum := by
  induction h with
  | nil => rfl
  | cons x _ ih => rw [List.sum_cons, List.sum_cons, ih]
  | swap x y l => simp only [List.sum_cons]; omega
  | trans _ _ h1 h2 => exact h1.trans h2
theorem cnt_perm {a b : List Row} (p : a.Perm b) (k : Ky) : cnt a k = cnt b k := by
  unfold Sh.cnt
  exact sum_perm ((p.filter _).map Row.o)
theorem row_ext {r q : Row} (hk : r.key = q.key) (ho : r.o = q.o) : r = q := by
  obtain ⟨a, b, c, d⟩ := r
  obtain ⟨a', b', c', d'⟩ := q
  simp only [Row.key, Prod.mk.injEq] at hk
  obtain ⟨h1, h2, h3⟩ := hk
  subst h1; subst h2; subst h3
  simp only at ho
  rw [ho]
theorem canon_sub {n m : Nat} {v u o q : Int} {a b : List Row} (ha : Tn n v o a) (hb : Tn m u q b) (e : ∀ k, cnt a k = cnt b k) : ∀ r ∈ a, r ∈ b := by
  intro r hr
  have h1 := cnt_mem ha.nd hr
  have h2 := (ha.o0 r hr).1
  by_cases c : r.key ∈ b.map Row.key
  · obtain ⟨x, hx, ex⟩ := List.mem_map.mp c
    have h3 := cnt_mem hb.nd hx
    rw [ex, ← e, h1] at h3
    rw [row_ext ex.symm h3]
    exact hx
  · have := cnt_none c
    rw [← e, h1] at this
    omega
theorem nodup_keys {a : List Row} (h : (a.map Row.key).Nodup) : a.Nodup := List.Pairwise.of_map Row.key (fun _ _ hne e => hne (congrArg Row.key e)) h
theorem canon {n m : Nat} {v u o q : Int} {a b : List Row} (ha : Tn n v o a) (hb : Tn m u q b) (e : ∀ k, cnt a k = cnt b k) : srt a = srt b := by
  refine srt_eq ?_
  have h1 := canon_sub ha hb e
  have h2 := canon_sub hb ha fun k => (e k).symm
  exact (List.perm_ext_iff_of_nodup (nodup_keys ha.nd) (nodup_keys hb.nd)).mpr fun r => ⟨h1 r, h2 r⟩
/-! ### sums -/
theorem tot_nd {a b : List Row} (na : (a.map Row.key).Nodup) (nb : (b.map Row.key).Nodup) : ((tot a b).map Row.key).Nodup := by
  rw [tot_keys, List.map_append, List.nodup_append]
  refine ⟨na, ?_, fun x hx y hy e => ?_⟩
  · exact nb.sublist (List.Sublist.map _ List.filter_sublist)
  · obtain ⟨q, hq, rfl⟩ := List.mem_map.mp hy
    have := (List.mem_filter.mp hq).2
    exact (of_decide_eq_true this) (e ▸ hx)
theorem tot_mem {a b : List Row} {r : Row} (h : r ∈ tot a b) : ∃ x, (x ∈ a ∨ x ∈ b) ∧ r = rt (a ++ b) x := by
  obtain ⟨x, hx, rfl⟩ := List.mem_map.mp h
  rcases List.mem_append.mp hx with hx | hx
  · exact ⟨x, .inl hx, rfl⟩
  · exact ⟨x, .inr (List.mem_filter.mp hx).1, rfl⟩
theorem cnt_le {n : Nat} {v o : Int} {a : List Row} (h : Tn n v o a) (ho : 0 ≤ o) (k : Ky) : 0 ≤ cnt a k ∧ cnt a k ≤ o := by
  by_cases c : k ∈ a.map Row.key
  · obtain ⟨x, hx, rfl⟩ := List.mem_map.mp c
    rw [cnt_mem h.nd hx]
    have := h.o0 x hx
    omega
  · rw [cnt_none c]; omega
theorem tot_cnt {n m : Nat} {v u o q : Int} {a b : List Row} (ha : Tn n v o a) (hb : Tn m u q b) (k : Ky) : cnt (tot a b) k = cnt a k + cnt b k := by
  rw [← cnt_app]
  by_cases c : k ∈ (tot a b).map Row.key
  · obtain ⟨r, hr, rfl⟩ := List.mem_map.mp c
    rw [cnt_mem (tot_nd ha.nd hb.nd) hr]
    obtain ⟨x, _, rfl⟩ := tot_mem hr
    rfl
  · rw [cnt_none c]
    rw [tot_keys] at c
    refine (cnt_none fun h => c ?_).symm
    rw [List.map_append] at h ⊢
    rcases List.mem_append.mp h with h | h
    · exact List.mem_append_left _ h
    · by_cases d : k ∈ a.map Row.key
      · exact List.mem_append_left _ d
      · obtain ⟨x, hx, rfl⟩ := List.mem_map.mp h
        exact List.mem_append_right _ (List.mem_map_of_mem (List.mem_filter.mpr ⟨hx, decide_eq_true d⟩))
theorem tot_Tn {n m : Nat} {v o q : Int} {a b : List Row} (ha : Tn n v o a) (hb : Tn m v q b) (h0 : 0 ≤ o) (h1 : 0 ≤ q) : Tn (n + m) v (o + q) (tot a b) := by
  refine ⟨Nat.le_trans (tot_len a b) (Nat.add_le_add ha.len hb.len), fun r hr => ?_, fun r hr => ?_, fun r hr => ?_, fun r hr => ?_, tot_nd ha.nd hb.nd⟩
  · obtain ⟨x, hx | hx, rfl⟩ := tot_mem hr
    · exact ha.kk x hx
    · exact hb.kk x hx
  · obtain ⟨x, hx | hx, rfl⟩ := tot_mem hr
    · exact ha.l0 x hx
    · exact hb.l0 x hx
  · obtain ⟨x, hx | hx, rfl⟩ := tot_mem hr
    · exact ha.r0 x hx
    · exact hb.r0 x hx
  · obtain ⟨x, hx, rfl⟩ := tot_mem hr
    have e : (rt (a ++ b) x).o = cnt a x.key + cnt b x.key := cnt_app a b x.key
    have c1 := cnt_le ha h0 x.key
    have c2 := cnt_le hb h1 x.key
    rw [e]
    rcases hx with hx | hx
    · have := cnt_mem ha.nd hx
      have := (ha.o0 x hx).1
      omega
    · have := cnt_mem hb.nd hx
      have := (hb.o0 x hx).1
      omega
/-! ### products -/
def dec (k : Ky) : Ky := (k.1, k.2.1 / 10, k.2.2 / 10)
def mdc (k : Ky) : Ky := (k.1, k.2.1 % 10, k.2.2 % 10)
theorem pr_key {r q : Row} {k : Ky} (hl : 0 ≤ q.l ∧ q.l ≤ 9) (hr : 0 ≤ q.r ∧ q.r ≤ 9) : ((pr r q).key = k) ↔ r.key = dec (r.k, k.2.1, k.2.2) ∧ q.key = mdc (q.k, k.2.1, k.2.2) ∧ r.k = k.1 := by
  obtain ⟨a, b, c⟩ := k
  simp only [pr, Row.key, dec, mdc, Prod.mk.injEq, true_and]
  constructor
  · rintro ⟨rfl, rfl, rfl⟩
    refine ⟨⟨?_, ?_⟩, ⟨?_, ?_⟩, rfl⟩ <;> omega
  · rintro ⟨⟨h1, h2⟩, ⟨h3, h4⟩, h5⟩
    refine ⟨h5, ?_, ?_⟩ <;> omega
theorem cnt_prs {r : Row} {k : Ky} : ∀ {b : List Row}, (∀ q ∈ b, 0 ≤ q.l ∧ q.l ≤ 9) → (∀ q ∈ b, 0 ≤ q.r ∧ q.r ≤ 9) → cnt (prs r b) k = cnt [r] (dec k) * cnt b (mdc k)
  | [], _, _ => by
    show cnt [] k = _ * cnt [] (mdc k)
    have e : ∀ k, cnt [] k = 0 := fun _ => rfl
    rw [e, e, Int.mul_zero]
  | q :: b, hl, hr => by
    have ih := cnt_prs (r := r) (k := k) (b := b) (fun x hx => hl x (List.mem_cons_of_mem _ hx)) fun x hx => hr x (List.mem_cons_of_mem _ hx)
    have e : cnt (q :: b) (mdc k) = cnt [q] (mdc k) + cnt b (mdc k) := cnt_app [q] b _
    rw [prs_cons, cnt_app, ih, e, Int.mul_add]
    congr 1
    have pk := pr_key (r := r) (q := q) (k := k) (hl q List.mem_cons_self) (hr q List.mem_cons_self)
    unfold prs
    by_cases c : q.k = r.k
    · have f : [q].filter (fun q => decide (q.k = r.k)) = [q] := by simp [c]
      rw [f, List.map_cons, List.map_nil, cnt_one, cnt_one, cnt_one]
      by_cases d : (pr r q).key = k
      · obtain ⟨h1, h2, h3⟩ := pk.mp d
        have h1 : r.key = dec k := by rw [h1]; unfold dec; rw [h3]
        have h2 : q.key = mdc k := by rw [h2]; unfold mdc; rw [c, h3]
        rw [if_pos d, if_pos h1, if_pos h2]
        rfl
      · rw [if_neg d]
        by_cases h1 : r.key = dec k
        · by_cases h2 : q.key = mdc k
          · have h3 : r.k = k.1 := congrArg Prod.fst h1
            have h4 : q.k = k.1 := congrArg Prod.fst h2
            refine absurd (pk.mpr ⟨?_, ?_, h3⟩) d
            · rw [h1]; unfold dec; rw [h3]
            · rw [h2]; unfold mdc; rw [h4]
          · rw [if_neg h2, Int.mul_zero]
        · rw [if_neg h1, Int.zero_mul]
    · have f : [q].filter (fun q => decide (q.k = r.k)) = [] := by simp [c]
      rw [f, List.map_nil, cnt_one, cnt_one]
      show (0 : Int) = _
      by_cases h1 : r.key = dec k
      · by_cases h2 : q.key = mdc k
        · have h3 : r.k = k.1 := congrArg Prod.fst h1
          have h4 : q.k = k.1 := congrArg Prod.fst h2
          exact absurd (h4.trans h3.symm) c
        · rw [if_neg h2, Int.mul_zero]
      · rw [if_neg h1, Int.zero_mul]
theorem cnt_pairs {k : Ky} : ∀ {a b : List Row}, (∀ q ∈ b, 0 ≤ q.l ∧ q.l ≤ 9) → (∀ q ∈ b, 0 ≤ q.r ∧ q.r ≤ 9) → cnt (pairs a b) k = cnt a (dec k) * cnt b (mdc k)
  | [], b, _, _ => by
    show (0 : Int) = 0 * _
    rw [Int.zero_mul]
  | r :: a, b, hl, hr => by
    have e : cnt (r :: a) (dec k) = cnt [r] (dec k) + cnt a (dec k) := cnt_app [r] a _
    have p : pairs (r :: a) b = prs r b ++ pairs a b := rfl
    rw [p, cnt_app, cnt_prs hl hr, cnt_pairs hl hr, e, Int.add_mul]
theorem pairs_mem {a b : List Row} {x : Row} (h : x ∈ pairs a b) : ∃ r ∈ a, ∃ q ∈ b, q.k = r.k ∧ x = pr r q := by
  obtain ⟨r, hr, h⟩ := List.mem_flatMap.mp h
  obtain ⟨q, hq, rfl⟩ := List.mem_map.mp h
  obtain ⟨h1, h2⟩ := List.mem_filter.mp hq
  exact ⟨r, hr, q, h1, of_decide_eq_true h2, rfl⟩
theorem pr_inj {r q r' q' : Row} (hl : 0 ≤ q.l ∧ q.l ≤ 9) (hr : 0 ≤ q.r ∧ q.r ≤ 9) (hl' : 0 ≤ q'.l ∧ q'.l ≤ 9) (hr' : 0 ≤ q'.r ∧ q'.r ≤ 9) (c : q.k = r.k) (c' : q'.k = r'.k) (e : (pr r q).key = (pr r' q').key) : r.key = r'.key ∧ q.key = q'.key := by
  simp only [pr, Row.key, Prod.mk.injEq] at e ⊢
  obtain ⟨h1, h2, h3⟩ := e
  refine ⟨⟨h1, ?_, ?_⟩, ⟨?_, ?_, ?_⟩⟩
  · omega
  · omega
  · rw [c, c', h1]
  · omega
  · omega
theorem prs_nd {r : Row} : ∀ {b : List Row}, (∀ q ∈ b, 0 ≤ q.l ∧ q.l ≤ 9) → (∀ q ∈ b, 0 ≤ q.r ∧ q.r ≤ 9) → (b.map Row.key).Nodup → ((prs r b).map Row.key).Nodup
  | [], _, _, _ => List.nodup_nil
  | q :: b, hl, hr, nd => by
    rw [List.map_cons, List.nodup_cons] at nd
    have ih := prs_nd (r := r) (b := b) (fun x hx => hl x (List.mem_cons_of_mem _ hx)) (fun x hx => hr x (List.mem_cons_of_mem _ hx)) nd.2
    unfold prs at ih ⊢
    by_cases c : q.k = r.k
    · have f : (q :: b).filter (fun q => decide (q.k = r.k)) = q :: b.filter (fun q => decide (q.k = r.k)) := by simp [c]
      rw [f, List.map_cons, List.map_cons, List.nodup_cons]
      refine ⟨fun h => ?_, ih⟩
      obtain ⟨x, hx, e⟩ := List.mem_map.mp h
      obtain ⟨y, hy, rfl⟩ := List.mem_map.mp hx
      obtain ⟨h1, h2⟩ := List.mem_filter.mp hy
      have := pr_inj (hl y (List.mem_cons_of_mem _ h1)) (hr y (List.mem_cons_of_mem _ h1)) (hl q List.mem_cons_self) (hr q List.mem_cons_self) (of_decide_eq_true h2) c e
      exact nd.1 (this.2 ▸ List.mem_map_of_mem (f := Row.key) h1)
    · have f : (q :: b).filter (fun q => decide (q.k = r.k)) = b.filter (fun q => decide (q.k = r.k)) := by simp [c]
      rw [f]
      exact ih
theorem pairs_nd : ∀ {a b : List Row}, (∀ q ∈ b, 0 ≤ q.l ∧ q.l ≤ 9) → (∀ q ∈ b, 0 ≤ q.r ∧ q.r ≤ 9) → (a.map Row.key).Nodup → (b.map Row.key).Nodup → ((pairs a b).map Row.key).Nodup
  | [], b, _, _, _, _ => List.nodup_nil
  | r :: a, b, hl, hr, na, nb => by
    rw [List.map_cons, List.nodup_cons] at na
    have p : pairs (r :: a) b = prs r b ++ pairs a b := rfl
    rw [p, List.map_append, List.nodup_append]
    refine ⟨prs_nd hl hr nb, pairs_nd hl hr na.2 nb, fun x hx y hy e => ?_⟩
    obtain ⟨x', hx', ex⟩ := List.mem_map.mp hx
    obtain ⟨y', hy', ey⟩ := List.mem_map.mp hy
    obtain ⟨q, hq, rfl⟩ := List.mem_map.mp hx'
    obtain ⟨h1, h2⟩ := List.mem_filter.mp hq
    obtain ⟨r', hr', q', hq', h3, rfl⟩ := pairs_mem hy'
    have e := ex.trans (e.trans ey.symm)
    have := pr_inj (hl q h1) (hr q h1) (hl q' hq') (hr q' hq') (of_decide_eq_true h2) h3 e
    exact na.1 (this.1 ▸ List.mem_map_of_mem (f := Row.key) hr')
theorem pairs_Tn {n m : Nat} {o q : Int} {a b : List Row} (ha : Tn n 9 o a) (hb : Tn m 9 q b) (h0 : 0 ≤ o) : Tn (pairs a b).length 99 (o * q) (pairs a b) := by
  refine ⟨Nat.le_refl _, fun x hx => ?_, fun x hx => ?_, fun x hx => ?_, fun x hx => ?_, pairs_nd hb.l0 hb.r0 ha.nd hb.nd⟩ <;> obtain ⟨r, hr, y, hy, c, rfl⟩ := pairs_mem hx
  · exact ha.kk r hr
  · have := ha.l0 r hr
    have := hb.l0 y hy
    show 0 ≤ 10 * r.l + y.l ∧ 10 * r.l + y.l ≤ 99
    omega
  · have := ha.r0 r hr
    have := hb.r0 y hy
    show 0 ≤ 10 * r.r + y.r ∧ 10 * r.r + y.r ≤ 99
    omega
  · have h1 := ha.o0 r hr
    have h2 := hb.o0 y hy
    show 1 ≤ r.o * y.o ∧ r.o * y.o ≤ o * q
    refine ⟨?_, Int.mul_le_mul h1.2 h2.2 (by omega) h0⟩
    have : 1 * 1 ≤ r.o * y.o := Int.mul_le_mul h1.1 h2.1 (by decide) (by omega)
    simpa using this
end Cq.K08

set_option Elab.async false
set_option linter.all false
set_option maxRecDepth 100000
set_option maxHeartbeats 1000000
namespace Cq.K08
open PySem PyProof.Rows L2 Cq Cq.Sh
/-! ### a table that a head stands for -/
def HT (h : Hd) (g : Gm) (X : List Row) : Prop := h = .va (tb X) ∨ ∃ i, h = .nm i ∧ g[i]? = some (.im (tb X))
def MT (ma : M Hd) (g : Gm) (X : List Row) : Prop := ∃ h, ma g = some (.ok h g) ∧ HT h g X
theorem rd_im {g : Gm} {i : Nat} {a : D} (h : g[i]? = some (.im a)) : Hd.rd g (.nm i) = some a := by simp only [Hd.rd, h]
theorem nm_im {g : Gm} {i : Nat} {a : D} (h : g[i]? = some (.im a)) : mNm i g = some (.ok (.nm i) g) := nmE h fun z => nomatch z
theorem mt_nm {g : Gm} {i : Nat} {X : List Row} (h : g[i]? = some (.im (tb X))) : MT (mNm i) g X := ⟨_, nm_im h, .inr ⟨i, rfl, h⟩⟩
theorem mt_va {g : Gm} {m : M D} {X : List Row} (h : m g = some (.ok (tb X) g)) : MT (mVa m) g X := ⟨.va (tb X), by unfold mVa M.bind; simp only [h, M.ret], .inl rfl⟩
theorem ht_cls {h : Hd} {g : Gm} {X : List Row} (k : HT h g X) : mCls [0] h g = some (.ok 0 g) := by
  rcases k with rfl | ⟨i, rfl, e⟩
  · exact tb_cls
  · exact tb_clsN e
theorem ht_rhs {h : Hd} {g : Gm} {X : List Row} (k : HT h g X) : mRhs 0 h g = some (.ok () g) := by
  rcases k with rfl | ⟨i, rfl, e⟩
  · rfl
  · exact rhs_tb e
theorem iopA_eq {c : Nat} {k : Hd → Hd → M D} {ma mb : M Hd} {g : Gm} {h h' : Hd} (h1 : ma g = some (.ok h g)) (h2 : mb g = some (.ok h' g)) (h3 : mCls [c] h g = some (.ok c g)) (h4 : mRhs c h' g = some (.ok () g)) : mIopA c k ma mb g = k h h' g := by
  unfold mIopA M.bind
  simp only [h1]
  simp only [h2, h3, h4]
theorem call2_h {f : Fn} {h h' : Hd} {g : Gm} {X Y : List Row} {o : Res D} (k : HT h g X) (k' : HT h' g Y) (e : (∃ z, f [tb X, tb Y] = some (.ret z []) ∧ o = .ok z g) ∨ (∃ c, f [tb X, tb Y] = some (.exc c []) ∧ o = .ex c g)) : mCallF [.im, .im] f [h, h'] g = some o := by
  unfold HT at k k'
  generalize tb Y = B at *
  generalize tb X = A at *
  rcases k with rfl | ⟨i, rfl, hi⟩ <;> rcases k' with rfl | ⟨j, rfl, hj⟩ <;> rcases e with ⟨z, e, rfl⟩ | ⟨c, e, rfl⟩
  all_goals first
    | (have r := rd_im hi; have r2 := rd_im hj; simp (config := { decide := false }) only [↓runDef, gOf, slotOf, endMs, ↓seqE, ↓bindE, bindO_ok, bindO_ex, bindO_none, seqO_nx, seqO_rt, seqO_rn, seqO_bk, seqO_ct, seqO_ex, seqO_none, ↓retE, ↓failE, ↓ifE, ↓andE, ↓andK_t, ↓andK_f, ↓orE, ↓orK_t, ↓orK_f, ↓andBE, ↓andBK_t, ↓andBK_f, ↓orBE, ↓orBK_t, ↓orBK_f, ↓chE, ↓chK_t, ↓chK_f, ifO_t, ifO_f, ↓mVa, ↓mFz, ↓mNm, ↓mFrz, ↓mOp2, ↓mOp1, ↓f2E, ↓f1E, ↓fsE, ansO_some, ansO_none, rdAll, Hd.rd, D.flat, ↓mCons, ↓mCall, ↓mTup, ↓mLst, ↓mFrzs, dBool, dadd, dsub, dgt, dMax2, dMin2, ↓mSet, ↓mSetN, ↓mSetIx, mKindN, isKindN, mWr, beq_self_eq_true, Sl.cell, Sl.put, ↓mFrzM, argDs, argD, apartB, putMu, ↓mCallF, ↓mCallN, Hd.isNm, nmu, List.cons_append, List.nil_append, List.length_cons, List.length_nil, List.replicate_succ, List.replicate_zero, List.getElem?_cons_zero, List.getElem?_cons_succ, List.set_cons_zero, List.set_cons_succ, List.any_nil, List.any_cons, Nat.reduceAdd, Nat.reduceSub, Nat.reduceBEq, if_true, if_false, Bool.false_eq_true, ↓reduceIte, Option.bind_some, Option.map_some, Bool.or_self, Bool.false_or, Bool.or_false, Bool.true_or, Bool.or_true, List.contains_nil, List.contains_cons, Bool.and_self, Bool.not_false, Bool.not_true, Bool.true_and, Bool.and_true, Bool.false_and, decide_true, decide_false, e, r, r2, hi, hj])
    | (have r := rd_im hi; simp (config := { decide := false }) only [↓runDef, gOf, slotOf, endMs, ↓seqE, ↓bindE, bindO_ok, bindO_ex, bindO_none, seqO_nx, seqO_rt, seqO_rn, seqO_bk, seqO_ct, seqO_ex, seqO_none, ↓retE, ↓failE, ↓ifE, ↓andE, ↓andK_t, ↓andK_f, ↓orE, ↓orK_t, ↓orK_f, ↓andBE, ↓andBK_t, ↓andBK_f, ↓orBE, ↓orBK_t, ↓orBK_f, ↓chE, ↓chK_t, ↓chK_f, ifO_t, ifO_f, ↓mVa, ↓mFz, ↓mNm, ↓mFrz, ↓mOp2, ↓mOp1, ↓f2E, ↓f1E, ↓fsE, ansO_some, ansO_none, rdAll, Hd.rd, D.flat, ↓mCons, ↓mCall, ↓mTup, ↓mLst, ↓mFrzs, dBool, dadd, dsub, dgt, dMax2, dMin2, ↓mSet, ↓mSetN, ↓mSetIx, mKindN, isKindN, mWr, beq_self_eq_true, Sl.cell, Sl.put, ↓mFrzM, argDs, argD, apartB, putMu, ↓mCallF, ↓mCallN, Hd.isNm, nmu, List.cons_append, List.nil_append, List.length_cons, List.length_nil, List.replicate_succ, List.replicate_zero, List.getElem?_cons_zero, List.getElem?_cons_succ, List.set_cons_zero, List.set_cons_succ, List.any_nil, List.any_cons, Nat.reduceAdd, Nat.reduceSub, Nat.reduceBEq, if_true, if_false, Bool.false_eq_true, ↓reduceIte, Option.bind_some, Option.map_some, Bool.or_self, Bool.false_or, Bool.or_false, Bool.true_or, Bool.or_true, List.contains_nil, List.contains_cons, Bool.and_self, Bool.not_false, Bool.not_true, Bool.true_and, Bool.and_true, Bool.false_and, decide_true, decide_false, e, r, hi])
    | (have r2 := rd_im hj; simp (config := { decide := false }) only [↓runDef, gOf, slotOf, endMs, ↓seqE, ↓bindE, bindO_ok, bindO_ex, bindO_none, seqO_nx, seqO_rt, seqO_rn, seqO_bk, seqO_ct, seqO_ex, seqO_none, ↓retE, ↓failE, ↓ifE, ↓andE, ↓andK_t, ↓andK_f, ↓orE, ↓orK_t, ↓orK_f, ↓andBE, ↓andBK_t, ↓andBK_f, ↓orBE, ↓orBK_t, ↓orBK_f, ↓chE, ↓chK_t, ↓chK_f, ifO_t, ifO_f, ↓mVa, ↓mFz, ↓mNm, ↓mFrz, ↓mOp2, ↓mOp1, ↓f2E, ↓f1E, ↓fsE, ansO_some, ansO_none, rdAll, Hd.rd, D.flat, ↓mCons, ↓mCall, ↓mTup, ↓mLst, ↓mFrzs, dBool, dadd, dsub, dgt, dMax2, dMin2, ↓mSet, ↓mSetN, ↓mSetIx, mKindN, isKindN, mWr, beq_self_eq_true, Sl.cell, Sl.put, ↓mFrzM, argDs, argD, apartB, putMu, ↓mCallF, ↓mCallN, Hd.isNm, nmu, List.cons_append, List.nil_append, List.length_cons, List.length_nil, List.replicate_succ, List.replicate_zero, List.getElem?_cons_zero, List.getElem?_cons_succ, List.set_cons_zero, List.set_cons_succ, List.any_nil, List.any_cons, Nat.reduceAdd, Nat.reduceSub, Nat.reduceBEq, if_true, if_false, Bool.false_eq_true, ↓reduceIte, Option.bind_some, Option.map_some, Bool.or_self, Bool.false_or, Bool.or_false, Bool.true_or, Bool.or_true, List.contains_nil, List.contains_cons, Bool.and_self, Bool.not_false, Bool.not_true, Bool.true_and, Bool.and_true, Bool.false_and, decide_true, decide_false, e, r2, hj])
    | simp (config := { decide := false }) only [↓runDef, gOf, slotOf, endMs, ↓seqE, ↓bindE, bindO_ok, bindO_ex, bindO_none, seqO_nx, seqO_rt, seqO_rn, seqO_bk, seqO_ct, seqO_ex, seqO_none, ↓retE, ↓failE, ↓ifE, ↓andE, ↓andK_t, ↓andK_f, ↓orE, ↓orK_t, ↓orK_f, ↓andBE, ↓andBK_t, ↓andBK_f, ↓orBE, ↓orBK_t, ↓orBK_f, ↓chE, ↓chK_t, ↓chK_f, ifO_t, ifO_f, ↓mVa, ↓mFz, ↓mNm, ↓mFrz, ↓mOp2, ↓mOp1, ↓f2E, ↓f1E, ↓fsE, ansO_some, ansO_none, rdAll, Hd.rd, D.flat, ↓mCons, ↓mCall, ↓mTup, ↓mLst, ↓mFrzs, dBool, dadd, dsub, dgt, dMax2, dMin2, ↓mSet, ↓mSetN, ↓mSetIx, mKindN, isKindN, mWr, beq_self_eq_true, Sl.cell, Sl.put, ↓mFrzM, argDs, argD, apartB, putMu, ↓mCallF, ↓mCallN, Hd.isNm, nmu, List.cons_append, List.nil_append, List.length_cons, List.length_nil, List.replicate_succ, List.replicate_zero, List.getElem?_cons_zero, List.getElem?_cons_succ, List.set_cons_zero, List.set_cons_succ, List.any_nil, List.any_cons, Nat.reduceAdd, Nat.reduceSub, Nat.reduceBEq, if_true, if_false, Bool.false_eq_true, ↓reduceIte, Option.bind_some, Option.map_some, Bool.or_self, Bool.false_or, Bool.or_false, Bool.true_or, Bool.or_true, List.contains_nil, List.contains_cons, Bool.and_self, Bool.not_false, Bool.not_true, Bool.true_and, Bool.and_true, Bool.false_and, decide_true, decide_false, e]
theorem op_ret {f : Fn} {ma mb : M Hd} {g : Gm} {X Y : List Row} {z : D} (ha : MT ma g X) (hb : MT mb g Y) (e : f [tb X, tb Y] = some (.ret z [])) : mIopA 0 (fun h h2 => mCallF [.im, .im] f [h, h2]) ma mb g = some (.ok z g) := by
  obtain ⟨h, e1, k⟩ := ha
  obtain ⟨h', e2, k'⟩ := hb
  rw [iopA_eq e1 e2 (ht_cls k) (ht_rhs k')]
  exact call2_h k k' (.inl ⟨z, e, rfl⟩)
theorem op_exc {f : Fn} {ma mb : M Hd} {g : Gm} {X Y : List Row} {c : Nat} (ha : MT ma g X) (hb : MT mb g Y) (e : f [tb X, tb Y] = some (.exc c [])) : mIopA 0 (fun h h2 => mCallF [.im, .im] f [h, h2]) ma mb g = some (.ex c g) := by
  obtain ⟨h, e1, k⟩ := ha
  obtain ⟨h', e2, k'⟩ := hb
  rw [iopA_eq e1 e2 (ht_cls k) (ht_rhs k')]
  exact call2_h k k' (.inr ⟨c, e, rfl⟩)
theorem rows_eqv : ∀ a b : List Row, PyData.eqvAll (a.map Row.p) (b.map Row.p) = decide (a = b)
  | [], [] => by simp [PyData.eqvAll]
  | [], _ :: _ => by simp [PyData.eqvAll]
  | _ :: _, [] => by simp [PyData.eqvAll]
  | a :: as, b :: bs => by
    have e : PyData.eqv (Row.p a) (Row.p b) = decide (a = b) := by
      obtain ⟨k, l, r, o⟩ := a
      obtain ⟨k', l', r', o'⟩ := b
      simp only [Row.p, PyData.eqv, PyData.eqvAll, Bool.and_true]
      rw [Bool.eq_iff_iff]
      simp
    simp only [List.map_cons, PyData.eqvAll, e, rows_eqv as bs]
    rw [Bool.eq_iff_iff]
    simp
theorem rows_pyT (rs : List Row) : (D.tup (rs.map Row.d)).py = some (.tuple (rs.map Row.p)) := by
  have := rows_py rs
  simp only [D.py] at this ⊢
  cases h : pyL (rs.map Row.d) with
  | none => rw [h] at this; cases this
  | some ps =>
    rw [h] at this
    simp only [Option.map_some, Option.some.injEq, PyData.list.injEq] at this
    rw [this]
    rfl
theorem rows_shT {rs : List Row} (h : ∀ r ∈ rs, r.k ∈ kinds) : SeqAt.shaped (.tuple (rs.map Row.p)) = true := by
  have := rows_shaped h
  unfold SeqAt.shaped at this ⊢
  simp only [PyData.canLay0, PyData.depth, Bool.and_eq_true, decide_eq_true_eq] at this ⊢
  exact this
theorem eq_self {rs : List Row} (h : ∀ r ∈ rs, r.k ∈ kinds) : dEq (.tup (rs.map Row.d)) (.tup (rs.map Row.d)) = some (.bl true) := by
  show dEqP (.tup (rs.map Row.d)) (.tup (rs.map Row.d)) = _
  simp only [dEqP, rows_pyT]
  rw [if_pos ⟨rows_shT h, rows_shT h⟩]
  simp only [PyData.eqv, rows_eqv, decide_true]
theorem teq_n {rs : List Row} (h : ∀ r ∈ rs, r.k ∈ kinds) : f_Table___eq [tb rs, tb rs] = some (.ret (.bl true) []) := by
  have f0 := tb_fld (rs := rs) (g := [.im (tb rs), .im (tb rs)]) (i := 0) rfl
  have f1 := tb_fld (rs := rs) (g := [.im (tb rs), .im (tb rs)]) (i := 1) rfl
  have e := eq_self h
  have is : mIsi [0] (.cls 0) (mNm 1) [.im (tb rs), .im (tb rs)] = some (.ok (.bl true) [.im (tb rs), .im (tb rs)]) := rfl
  unfold f_Table___eq m_Table___eq
  generalize D.tup (rs.map Row.d) = T at *
  generalize tb rs = X at *
  simp (config := { decide := false }) only [↓runDef, gOf, slotOf, endMs, ↓seqE, ↓bindE, bindO_ok, bindO_ex, bindO_none, seqO_nx, seqO_rt, seqO_rn, seqO_bk, seqO_ct, seqO_ex, seqO_none, ↓retE, ↓failE, ↓ifE, ↓andE, ↓andK_t, ↓andK_f, ↓orE, ↓orK_t, ↓orK_f, ↓andBE, ↓andBK_t, ↓andBK_f, ↓orBE, ↓orBK_t, ↓orBK_f, ↓chE, ↓chK_t, ↓chK_f, ifO_t, ifO_f, ↓mVa, ↓mFz, ↓mNm, ↓mFrz, ↓mOp2, ↓mOp1, ↓f2E, ↓f1E, ↓fsE, ansO_some, ansO_none, rdAll, Hd.rd, D.flat, ↓mCons, ↓mCall, ↓mTup, ↓mLst, ↓mFrzs, dBool, dadd, dsub, dgt, dMax2, dMin2, ↓mSet, ↓mSetN, ↓mSetIx, mKindN, isKindN, mWr, beq_self_eq_true, Sl.cell, Sl.put, ↓mFrzM, argDs, argD, apartB, putMu, ↓mCallF, ↓mCallN, Hd.isNm, nmu, List.cons_append, List.nil_append, List.length_cons, List.length_nil, List.replicate_succ, List.replicate_zero, List.getElem?_cons_zero, List.getElem?_cons_succ, List.set_cons_zero, List.set_cons_succ, List.any_nil, List.any_cons, Nat.reduceAdd, Nat.reduceSub, Nat.reduceBEq, if_true, if_false, Bool.false_eq_true, ↓reduceIte, Option.bind_some, Option.map_some, Bool.or_self, Bool.false_or, Bool.or_false, Bool.true_or, Bool.or_true, List.contains_nil, List.contains_cons, Bool.and_self, Bool.not_false, Bool.not_true, Bool.true_and, Bool.and_true, Bool.false_and, decide_true, decide_false, is, f0, f1, e]
theorem teq_no {rs : List Row} {x : Str} : f_Table___eq [tb rs, .str x] = some (.ret (.bl false) []) := by
  have is : mIsi [0] (.cls 0) (mNm 1) [.im (tb rs), .im (.str x)] = some (.ok (.bl false) [.im (tb rs), .im (.str x)]) := rfl
  unfold f_Table___eq m_Table___eq
  generalize tb rs = X at *
  simp (config := { decide := false }) only [↓runDef, gOf, slotOf, endMs, ↓seqE, ↓bindE, bindO_ok, bindO_ex, bindO_none, seqO_nx, seqO_rt, seqO_rn, seqO_bk, seqO_ct, seqO_ex, seqO_none, ↓retE, ↓failE, ↓ifE, ↓andE, ↓andK_t, ↓andK_f, ↓orE, ↓orK_t, ↓orK_f, ↓andBE, ↓andBK_t, ↓andBK_f, ↓orBE, ↓orBK_t, ↓orBK_f, ↓chE, ↓chK_t, ↓chK_f, ifO_t, ifO_f, ↓mVa, ↓mFz, ↓mNm, ↓mFrz, ↓mOp2, ↓mOp1, ↓f2E, ↓f1E, ↓fsE, ansO_some, ansO_none, rdAll, Hd.rd, D.flat, ↓mCons, ↓mCall, ↓mTup, ↓mLst, ↓mFrzs, dBool, dadd, dsub, dgt, dMax2, dMin2, ↓mSet, ↓mSetN, ↓mSetIx, mKindN, isKindN, mWr, beq_self_eq_true, Sl.cell, Sl.put, ↓mFrzM, argDs, argD, apartB, putMu, ↓mCallF, ↓mCallN, Hd.isNm, nmu, List.cons_append, List.nil_append, List.length_cons, List.length_nil, List.replicate_succ, List.replicate_zero, List.getElem?_cons_zero, List.getElem?_cons_succ, List.set_cons_zero, List.set_cons_succ, List.any_nil, List.any_cons, Nat.reduceAdd, Nat.reduceSub, Nat.reduceBEq, if_true, if_false, Bool.false_eq_true, ↓reduceIte, Option.bind_some, Option.map_some, Bool.or_self, Bool.false_or, Bool.or_false, Bool.true_or, Bool.or_true, List.contains_nil, List.contains_cons, Bool.and_self, Bool.not_false, Bool.not_true, Bool.true_and, Bool.and_true, Bool.false_and, decide_true, decide_false, is]
theorem ine_self {ma mb : M Hd} {g : Gm} {X : List Row} (ha : MT ma g X) (hb : MT mb g X) (k : ∀ r ∈ X, r.k ∈ kinds) : mIopA 0 (fun h h2 => (mCallF [.im, .im] f_Table___eq [h, h2]).bind dNotB) ma mb g = some (.ok (.bl false) g) := by
  obtain ⟨h, e1, k1⟩ := ha
  obtain ⟨h', e2, k2⟩ := hb
  rw [iopA_eq e1 e2 (ht_cls k1) (ht_rhs k2)]
  have c := call2_h (f := f_Table___eq) (o := .ok (.bl true) g) k1 k2 (.inl ⟨_, teq_n k, rfl⟩)
  unfold M.bind
  simp only [c]
  rfl
/-! ### what the operators give -/
/-- a table as it is kept -/
structure Tv (n : Nat) (v o : Int) (rs : List Row) : Prop where
  t : Tn n v o rs
  s : srt rs = rs
theorem tv_srt {n : Nat} {v o : Int} {rs : List Row} (h : Tn n v o rs) : Tv n v o (srt rs) := ⟨h.perm (srt_perm rs), srt_srt rs⟩
theorem Tv.uniq {n m : Nat} {v u o q : Int} {a b : List Row} (ha : Tv n v o a) (hb : Tv m u q b) (e : ∀ k, Sh.cnt a k = Sh.cnt b k) : a = b := by
  have := canon ha.t hb.t e
  rwa [ha.s, hb.s] at this
theorem tof_good {rs : List Row} (h : Good rs) : tofR rs = some (.ret (tb (srt rs)) []) := by
  unfold tofR
  rw [if_pos (goodB_iff.mpr h)]
theorem add_v {n m : Nat} {v o q : Int} {a b : List Row} (ha : Tv n v o a) (hb : Tv m v q b) (hn : n + m ≤ 12) (hv : v ≤ 99) (ho : 0 ≤ o) (hq : 0 ≤ q) (hs : o + q ≤ 10000) : ∃ c, Tv (n + m) v (o + q) c ∧ (∀ k, Sh.cnt c k = Sh.cnt a k + Sh.cnt b k) ∧ f_Table___add [tb a, tb b] = some (.ret (tb c) []) := by
  have t := tot_Tn ha.t hb.t ho hq
  refine ⟨srt (tot a b), tv_srt t, fun k => ?_, ?_⟩
  · rw [cnt_perm (srt_perm _), tot_cnt ha.t hb.t]
  · rw [Sh.add_ok (ha.t.good (by omega) hv (by omega)) (hb.t.good (by omega) hv (by omega))]
    exact tof_good (t.good hn hv hs)
theorem side_Tn {n m : Nat} {v u o : Int} {a b : List Row} (ha : Tn n v o a) (hb : Tn m u o b) (hv : -1 ≤ v) (hu : -1 ≤ u) : Tn (n + m) (v + u + 1) o (side a b) := by
  have mv : mx a ≤ v := mx_le hv fun r hr => ⟨(ha.l0 r hr).2, (ha.r0 r hr).2⟩
  have m1 := mx_ge a
  refine ⟨?_, fun x hx => ?_, fun x hx => ?_, fun x hx => ?_, fun x hx => ?_, ?_⟩
  · unfold side
    rw [List.length_append, List.length_map]
    exact Nat.add_le_add ha.len hb.len
  · rcases List.mem_append.mp hx with hx | hx
    · exact ha.kk x hx
    · obtain ⟨q, hq, rfl⟩ := List.mem_map.mp hx
      exact hb.kk q hq
  · rcases List.mem_append.mp hx with hx | hx
    · have := ha.l0 x hx; omega
    · obtain ⟨q, hq, rfl⟩ := List.mem_map.mp hx
      have := hb.l0 q hq
      show 0 ≤ q.l + (mx a + 1) ∧ q.l + (mx a + 1) ≤ _
      omega
  · rcases List.mem_append.mp hx with hx | hx
    · have := ha.r0 x hx; omega
    · obtain ⟨q, hq, rfl⟩ := List.mem_map.mp hx
      have := hb.r0 q hq
      show 0 ≤ q.r + (mx a + 1) ∧ q.r + (mx a + 1) ≤ _
      omega
  · rcases List.mem_append.mp hx with hx | hx
    · exact ha.o0 x hx
    · obtain ⟨q, hq, rfl⟩ := List.mem_map.mp hx
      exact hb.o0 q hq
  · unfold side
    rw [List.map_append, List.nodup_append]
    refine ⟨ha.nd, ?_, fun x hx y hy e => ?_⟩
    · rw [List.map_map]
      have e : (Row.key ∘ sh (mx a + 1)) = (fun k : Ky => (k.1, k.2.1 + (mx a + 1), k.2.2 + (mx a + 1))) ∘ Row.key := rfl
      rw [e, ← List.map_map]
      refine List.Pairwise.map _ (fun x y h z => h ?_) hb.nd
      obtain ⟨x1, x2, x3⟩ := x
      obtain ⟨y1, y2, y3⟩ := y
      simp only [Prod.mk.injEq] at z ⊢
      refine ⟨z.1, ?_, ?_⟩ <;> omega
    · obtain ⟨r, hr, e1⟩ := List.mem_map.mp hx
      obtain ⟨q', hq', e2⟩ := List.mem_map.mp hy
      obtain ⟨q, hq, rfl⟩ := List.mem_map.mp hq'
      have e := e1.trans (e.trans e2.symm)
      have h2 : r.l = q.l + (mx a + 1) := congrArg (fun k : Ky => k.2.1) e
      have := (mx_mem hr).1
      have := (hb.l0 q hq).1
      omega
theorem or_v {n m : Nat} {v u o : Int} {a b : List Row} (ha : Tv n v o a) (hb : Tv m u o b) (hn : n + m ≤ 12) (hv : -1 ≤ v) (hu : -1 ≤ u) (h9 : v + u + 1 ≤ 99) (ho : o ≤ 10000) : Tv (n + m) (v + u + 1) o (srt (side a b)) ∧ f_Table___or [tb a, tb b] = some (.ret (tb (srt (side a b))) []) := by
  have t := side_Tn ha.t hb.t hv hu
  refine ⟨tv_srt t, ?_⟩
  rw [Sh.or_ok (fun r hr => (ha.t.l0 r hr).1) (by have := ha.t.len; omega) (by have := hb.t.len; omega)]
  exact tof_good (t.good hn h9 ho)
theorem mul_v {n m : Nat} {o q : Int} {a b : List Row} (ha : Tv n 9 o a) (hb : Tv m 9 q b) (hn : n ≤ 12) (hm : m ≤ 12) (ho : 0 ≤ o) (h1 : o ≤ 10000) (h2 : q ≤ 10000) (hs : o * q ≤ 10000) :
    (∃ c, Tv 12 99 (o * q) c ∧ (∀ k, Sh.cnt c k = Sh.cnt a (dec k) * Sh.cnt b (mdc k)) ∧ f_Table___mul [tb a, tb b] = some (.ret (tb c) [])) ∨ (12 < (pairs a b).length ∧ f_Table___mul [tb a, tb b] = some (.exc 18 [])) := by
  have t := pairs_Tn ha.t hb.t ho
  have m1 : mx a ≤ 9 := mx_le (by decide) fun r hr => ⟨(ha.t.l0 r hr).2, (ha.t.r0 r hr).2⟩
  have m2 : mx b ≤ 9 := mx_le (by decide) fun r hr => ⟨(hb.t.l0 r hr).2, (hb.t.r0 r hr).2⟩
  have e := Sh.mul_ok (ha.t.good hn (by decide) h1) (hb.t.good hm (by decide) h2)
  unfold mulR at e
  rw [if_neg (by omega)] at e
  by_cases c : (pairs a b).length ≤ 12
  · have t := t.mono c (Int.le_refl _) (Int.le_refl _)
    refine .inl ⟨srt (pairs a b), tv_srt t, fun k => ?_, ?_⟩
    · rw [cnt_perm (srt_perm _), cnt_pairs hb.t.l0 hb.t.r0]
    · rw [e]
      exact tof_good (t.good (by decide) (by decide) hs)
  · refine .inr ⟨by omega, ?_⟩
    rw [e]
    unfold tofR
    rw [if_neg]
    intro z
    have := (goodB_iff.mp z).len
    omega
end Cq.K08

set_option Elab.async false
set_option linter.all false
set_option maxRecDepth 100000
set_option maxHeartbeats 1000000
namespace Cq.K08
open PySem PyProof.Rows L2 Cq Cq.Sh
/-! ### sums that may be too much -/
theorem add_v2 {n m : Nat} {v o q : Int} {a b : List Row} (ha : Tv n v o a) (hb : Tv m v q b) (hn : n ≤ 12) (hm : m ≤ 12) (hv : v ≤ 99) (ho : 0 ≤ o) (hq : 0 ≤ q) (hs : o + q ≤ 10000) : (∃ c, Tv 12 v (o + q) c ∧ (∀ k, Sh.cnt c k = Sh.cnt a k + Sh.cnt b k) ∧ f_Table___add [tb a, tb b] = some (.ret (tb c) [])) ∨ f_Table___add [tb a, tb b] = some (.exc 18 []) := by
  have t := tot_Tn ha.t hb.t ho hq
  have e := Sh.add_ok (ha.t.good hn hv (by omega)) (hb.t.good hm hv (by omega))
  unfold addR at e
  by_cases c : (tot a b).length ≤ 12
  · have t : Tn 12 v (o + q) (tot a b) := ⟨c, t.kk, t.l0, t.r0, t.o0, t.nd⟩
    refine .inl ⟨srt (tot a b), tv_srt t, fun k => ?_, ?_⟩
    · rw [cnt_perm (srt_perm _), tot_cnt ha.t hb.t]
    · rw [e]
      exact tof_good (t.good (by decide) hv hs)
  · right
    rw [e]
    unfold tofR
    rw [if_neg]
    intro z
    have := (goodB_iff.mp z).len
    omega
/-! ### what is told -/
def PT (P : List Row → Prop) (g : Gm) (o : Option (Res D)) : Prop := (∃ Z, P Z ∧ o = some (.ok (tb Z) g)) ∨ o = some (.ex 18 g)
def Told (P : List Row → Prop) (d : D) : Prop := d = .str "much" ∨ ∃ Z, P Z ∧ d = tb Z
theorem told_ret {Z : List Row} (fl : Addr) (F0 : Hp) : runDef [.im] 1 (m_x_law_told fl F0 none (tb Z)) [.lam fl F0 none (tb Z)] = some (.ret (tb Z) []) := by
  have h := mAct_ok (fl := fl) (F0 := F0) (d := tb Z) (g := [])
  unfold m_x_law_told
  generalize (tb Z) = Q at *
  simp (config := { decide := false }) only [↓runDef, gOf, slotOf, endMs, ↓seqE, ↓bindE, bindO_ok, bindO_ex, bindO_none, seqO_nx, seqO_rt, seqO_rn, seqO_bk, seqO_ct, seqO_ex, seqO_none, ↓retE, ↓failE, ↓ifE, ↓andE, ↓andK_t, ↓andK_f, ↓orE, ↓orK_t, ↓orK_f, ↓andBE, ↓andBK_t, ↓andBK_f, ↓orBE, ↓orBK_t, ↓orBK_f, ↓chE, ↓chK_t, ↓chK_f, ifO_t, ifO_f, ↓mVa, ↓mFz, ↓mNm, ↓mFrz, ↓mOp2, ↓mOp1, ↓f2E, ↓f1E, ↓fsE, ansO_some, ansO_none, rdAll, Hd.rd, D.flat, ↓mCons, ↓mCall, ↓mTup, ↓mLst, ↓mFrzs, dBool, dadd, dsub, dgt, dMax2, dMin2, ↓mSet, ↓mSetN, ↓mSetIx, mKindN, isKindN, mWr, beq_self_eq_true, Sl.cell, Sl.put, ↓mFrzM, argDs, argD, apartB, putMu, ↓mCallF, ↓mCallN, Hd.isNm, nmu, List.cons_append, List.nil_append, List.length_cons, List.length_nil, List.replicate_succ, List.replicate_zero, List.getElem?_cons_zero, List.getElem?_cons_succ, List.set_cons_zero, List.set_cons_succ, List.any_nil, List.any_cons, Nat.reduceAdd, Nat.reduceSub, Nat.reduceBEq, if_true, if_false, Bool.false_eq_true, ↓reduceIte, Option.bind_some, Option.map_some, Bool.or_self, Bool.false_or, Bool.or_false, Bool.true_or, Bool.or_true, List.contains_nil, List.contains_cons, Bool.and_self, Bool.not_false, Bool.not_true, Bool.true_and, Bool.and_true, Bool.false_and, decide_true, decide_false, mTry, h]
theorem told_ex {d : D} (fl : Addr) (F0 : Hp) : runDef [.im] 1 (m_x_law_told fl F0 (some 18) d) [.lam fl F0 (some 18) d] = some (.ret (.str "much") []) := by
  have h := mAct_ex (fl := fl) (F0 := F0) (c := 18) (d := d) (g := [])
  have s : subE 18 18 = true := rfl
  have c : ([10, 11, 12, 13, 14, 15, 18] : List Nat).contains 18 = true := rfl
  unfold m_x_law_told
  simp only [runDef, gOf, slotOf, mTry, mVa, M.bind, h, List.cons_append, List.nil_append, List.replicate_zero, List.length_cons, List.length_nil, Nat.reduceAdd, Nat.reduceSub, c, if_true, mHand, s, noExS, M.ret, endMs]
theorem told_of {m : M D} {g : Gm} {P : List Row → Prop} (h : PT P (imO g) (m (imO g))) : ∃ d, mLam 1 m_x_law_told m g = some (.ok d g) ∧ Told P d := by
  rcases h with ⟨Z, p, h⟩ | h
  · exact ⟨_, mLam_ok h told_ret, .inr ⟨Z, p, rfl⟩⟩
  · exact ⟨_, mLam_ex h told_ex, .inl rfl⟩
theorem va_ex {m : M D} {g : Gm} {c : Nat} (h : m g = some (.ex c g)) : mVa m g = some (.ex c g) := by unfold mVa M.bind; simp only [h]
theorem mul_pt {ma mb : M Hd} {g : Gm} {n m : Nat} {o q : Int} {a b : List Row} (ha : MT ma g a) (hb : MT mb g b) (ta : Tv n 9 o a) (t2 : Tv m 9 q b) (hn : n ≤ 12) (hm : m ≤ 12) (ho : 0 ≤ o) (h1 : o ≤ 10000) (h2 : q ≤ 10000) (hs : o * q ≤ 10000) :
    PT (fun c => Tv 12 99 (o * q) c ∧ ∀ k, Sh.cnt c k = Sh.cnt a (dec k) * Sh.cnt b (mdc k)) g (mIopA 0 (fun h h2 => mCallF [.im, .im] f_Table___mul [h, h2]) ma mb g) := by
  rcases mul_v ta t2 hn hm ho h1 h2 hs with ⟨c, t, k, e⟩ | ⟨_, e⟩
  · exact .inl ⟨c, ⟨t, k⟩, op_ret ha hb e⟩
  · exact .inr (op_exc ha hb e)
theorem iop_ex1 {k : Hd → Hd → M D} {ma mb : M Hd} {g : Gm} {c : Nat} (h : ma g = some (.ex c g)) : mIopA 0 k ma mb g = some (.ex c g) := by
  unfold mIopA M.bind
  simp only [h]
theorem iop_ex2 {k : Hd → Hd → M D} {ma mb : M Hd} {g : Gm} {c : Nat} {h' : Hd} (h : ma g = some (.ok h' g)) (h2 : mb g = some (.ex c g)) : mIopA 0 k ma mb g = some (.ex c g) := by
  unfold mIopA M.bind
  simp only [h, h2]
theorem add_pt {e1 e2 : M D} {g : Gm} {o q : Int} {u w : Ky → Int} (h1 : PT (fun c => Tv 12 99 o c ∧ ∀ k, Sh.cnt c k = u k) g (e1 g)) (h2 : PT (fun c => Tv 12 99 q c ∧ ∀ k, Sh.cnt c k = w k) g (e2 g)) (ho : 0 ≤ o) (hq : 0 ≤ q) (hs : o + q ≤ 10000) :
    PT (fun c => Tv 12 99 (o + q) c ∧ ∀ k, Sh.cnt c k = u k + w k) g (mIopA 0 (fun h h2 => mCallF [.im, .im] f_Table___add [h, h2]) (mVa e1) (mVa e2) g) := by
  rcases h1 with ⟨X, ⟨t1, k1⟩, h1⟩ | h1
  · rcases h2 with ⟨Y, ⟨t2, k2⟩, h2⟩ | h2
    · rcases add_v2 t1 t2 (by decide) (by decide) (by decide) ho hq hs with ⟨c, t, k, e⟩ | e
      · exact .inl ⟨c, ⟨t, fun x => by rw [k, k1, k2]⟩, op_ret (mt_va h1) (mt_va h2) e⟩
      · exact .inr (op_exc (mt_va h1) (mt_va h2) e)
    · obtain ⟨h', e, _⟩ := mt_va h1
      exact .inr (iop_ex2 e (va_ex h2))
  · exact .inr (iop_ex1 (va_ex h1))
section
variable {a b c : List Row} {g : Gm}
abbrev T3 (a : List Row) : Prop := Tv 3 9 4 a
abbrev PD (u : Ky → Int) : List Row → Prop := fun Z => Tv 12 99 32 Z ∧ ∀ k, Sh.cnt Z k = u k
theorem e1_pt (ta : T3 a) (t2 : T3 b) (tc : T3 c) (h0 : g[0]? = some (.im (tb a))) (h1 : g[1]? = some (.im (tb b))) (h2 : g[2]? = some (.im (tb c))) : PT (PD fun k => Sh.cnt a (dec k) * (Sh.cnt b (mdc k) + Sh.cnt c (mdc k))) g (e_x_law_are_right_1 g) := by
  obtain ⟨X, tX, kX, eX⟩ := add_v t2 tc (by decide) (by decide) (by decide) (by decide) (by decide)
  have p := mul_pt (mt_nm h0) (mt_va (op_ret (mt_nm h1) (mt_nm h2) eX)) ta tX (by decide) (by decide) (by decide) (by decide) (by decide) (by decide)
  unfold e_x_law_are_right_1
  rcases p with ⟨Z, ⟨t, k⟩, e⟩ | e
  · exact .inl ⟨Z, ⟨t, fun x => by rw [k, kX]⟩, e⟩
  · exact .inr e
theorem e2_pt (ta : T3 a) (t2 : T3 b) (tc : T3 c) (h0 : g[0]? = some (.im (tb a))) (h1 : g[1]? = some (.im (tb b))) (h2 : g[2]? = some (.im (tb c))) : PT (PD fun k => Sh.cnt a (dec k) * (Sh.cnt b (mdc k) + Sh.cnt c (mdc k))) g (e_x_law_are_right_2 g) := by
  have p1 := mul_pt (mt_nm h0) (mt_nm h1) ta t2 (by decide) (by decide) (by decide) (by decide) (by decide) (by decide)
  have p2 := mul_pt (mt_nm h0) (mt_nm h2) ta tc (by decide) (by decide) (by decide) (by decide) (by decide) (by decide)
  have p := add_pt p1 p2 (by decide) (by decide) (by decide)
  unfold e_x_law_are_right_2
  rcases p with ⟨Z, ⟨t, k⟩, e⟩ | e
  · exact .inl ⟨Z, ⟨t, fun x => (k x).trans (Int.mul_add ..).symm⟩, e⟩
  · exact .inr e
theorem e3_pt (ta : T3 a) (t2 : T3 b) (tc : T3 c) (h0 : g[0]? = some (.im (tb a))) (h1 : g[1]? = some (.im (tb b))) (h2 : g[2]? = some (.im (tb c))) : PT (PD fun k => (Sh.cnt b (dec k) + Sh.cnt c (dec k)) * Sh.cnt a (mdc k)) g (e_x_law_are_right_3 g) := by
  obtain ⟨X, tX, kX, eX⟩ := add_v t2 tc (by decide) (by decide) (by decide) (by decide) (by decide)
  have p := mul_pt (mt_va (op_ret (mt_nm h1) (mt_nm h2) eX)) (mt_nm h0) tX ta (by decide) (by decide) (by decide) (by decide) (by decide) (by decide)
  unfold e_x_law_are_right_3
  rcases p with ⟨Z, ⟨t, k⟩, e⟩ | e
  · exact .inl ⟨Z, ⟨t, fun x => by rw [k, kX]⟩, e⟩
  · exact .inr e
theorem e4_pt (ta : T3 a) (t2 : T3 b) (tc : T3 c) (h0 : g[0]? = some (.im (tb a))) (h1 : g[1]? = some (.im (tb b))) (h2 : g[2]? = some (.im (tb c))) : PT (PD fun k => (Sh.cnt b (dec k) + Sh.cnt c (dec k)) * Sh.cnt a (mdc k)) g (e_x_law_are_right_4 g) := by
  have p1 := mul_pt (mt_nm h1) (mt_nm h0) t2 ta (by decide) (by decide) (by decide) (by decide) (by decide) (by decide)
  have p2 := mul_pt (mt_nm h2) (mt_nm h0) tc ta (by decide) (by decide) (by decide) (by decide) (by decide) (by decide)
  have p := add_pt p1 p2 (by decide) (by decide) (by decide)
  unfold e_x_law_are_right_4
  rcases p with ⟨Z, ⟨t, k⟩, e⟩ | e
  · exact .inl ⟨Z, ⟨t, fun x => (k x).trans (Int.add_mul ..).symm⟩, e⟩
  · exact .inr e
end
/-! ### both agree -/
theorem call_str {f : Fn} {g : Gm} {i : Nat} {X : D} {x : Str} {z : D} (h : g[i]? = some (.im X)) (e : f [X, .str x] = some (.ret z [])) : mCallF [.im, .im] f [.nm i, .va (.str x)] g = some (.ok z g) := by
  have r := rd_im h
  simp (config := { decide := false }) only [↓runDef, gOf, slotOf, endMs, ↓seqE, ↓bindE, bindO_ok, bindO_ex, bindO_none, seqO_nx, seqO_rt, seqO_rn, seqO_bk, seqO_ct, seqO_ex, seqO_none, ↓retE, ↓failE, ↓ifE, ↓andE, ↓andK_t, ↓andK_f, ↓orE, ↓orK_t, ↓orK_f, ↓andBE, ↓andBK_t, ↓andBK_f, ↓orBE, ↓orBK_t, ↓orBK_f, ↓chE, ↓chK_t, ↓chK_f, ifO_t, ifO_f, ↓mVa, ↓mFz, ↓mNm, ↓mFrz, ↓mOp2, ↓mOp1, ↓f2E, ↓f1E, ↓fsE, ansO_some, ansO_none, rdAll, Hd.rd, D.flat, ↓mCons, ↓mCall, ↓mTup, ↓mLst, ↓mFrzs, dBool, dadd, dsub, dgt, dMax2, dMin2, ↓mSet, ↓mSetN, ↓mSetIx, mKindN, isKindN, mWr, beq_self_eq_true, Sl.cell, Sl.put, ↓mFrzM, argDs, argD, apartB, putMu, ↓mCallF, ↓mCallN, Hd.isNm, nmu, List.cons_append, List.nil_append, List.length_cons, List.length_nil, List.replicate_succ, List.replicate_zero, List.getElem?_cons_zero, List.getElem?_cons_succ, List.set_cons_zero, List.set_cons_succ, List.any_nil, List.any_cons, Nat.reduceAdd, Nat.reduceSub, Nat.reduceBEq, if_true, if_false, Bool.false_eq_true, ↓reduceIte, Option.bind_some, Option.map_some, Bool.or_self, Bool.false_or, Bool.or_false, Bool.true_or, Bool.or_true, List.contains_nil, List.contains_cons, Bool.and_self, Bool.not_false, Bool.not_true, Bool.true_and, Bool.and_true, Bool.false_and, decide_true, decide_false, e, r, h]
theorem eq_much {g : Gm} {i : Nat} {X : List Row} (h : g[i]? = some (.im (tb X))) : mIopA 0 (fun h h2 => mCallF [.im, .im] f_Table___eq [h, h2]) (mNm i) (mVa (M.ret (.str "much"))) g = some (.ok (.bl false) g) := by
  rw [iopA_eq (nm_im h) (show mVa (M.ret (.str "much")) g = some (.ok (.va (.str "much")) g) from rfl) (tb_clsN h) rfl]
  exact call_str h teq_no
theorem agree_gen {p1 p2 q1 q2 e1 : M D} {t1 t2 : M D} {d1 d2 : D} {g : Gm} {b1 b2 : Bool} {x : Str} (hg : g = [.im d1, .im d2]) (h1 : mPik 0 p1 q1 g = some (.ok (.bl b1) g)) (h2 : mPik 1 p2 q2 g = some (.ok (.bl b2) g)) (h3 : b1 = false → b2 = false → e1 g = some (.ok (.bl true) g) ∧ t1 g = some (.ok (.str x) g) ∧ t2 g = some (.ok (.str x) g)) :
    runDef [.im, .im] 2 ((mOrD (mPik 0 p1 q1) (mOrD (mPik 1 p2 q2) (mAndD e1 (mOp2 dEq (mVa t1) (mVa t2))))).bind fun d => M.ret (.rt d)) [d1, d2] = some (.ret (.bl true) []) := by
  subst hg
  cases b1 with
  | true => simp (config := { decide := false }) only [↓runDef, gOf, slotOf, endMs, ↓seqE, ↓bindE, bindO_ok, bindO_ex, bindO_none, seqO_nx, seqO_rt, seqO_rn, seqO_bk, seqO_ct, seqO_ex, seqO_none, ↓retE, ↓failE, ↓ifE, ↓andE, ↓andK_t, ↓andK_f, ↓orE, ↓orK_t, ↓orK_f, ↓andBE, ↓andBK_t, ↓andBK_f, ↓orBE, ↓orBK_t, ↓orBK_f, ↓chE, ↓chK_t, ↓chK_f, ifO_t, ifO_f, ↓mVa, ↓mFz, ↓mNm, ↓mFrz, ↓mOp2, ↓mOp1, ↓f2E, ↓f1E, ↓fsE, ansO_some, ansO_none, rdAll, Hd.rd, D.flat, ↓mCons, ↓mCall, ↓mTup, ↓mLst, ↓mFrzs, dBool, dadd, dsub, dgt, dMax2, dMin2, ↓mSet, ↓mSetN, ↓mSetIx, mKindN, isKindN, mWr, beq_self_eq_true, Sl.cell, Sl.put, ↓mFrzM, argDs, argD, apartB, putMu, ↓mCallF, ↓mCallN, Hd.isNm, nmu, List.cons_append, List.nil_append, List.length_cons, List.length_nil, List.replicate_succ, List.replicate_zero, List.getElem?_cons_zero, List.getElem?_cons_succ, List.set_cons_zero, List.set_cons_succ, List.any_nil, List.any_cons, Nat.reduceAdd, Nat.reduceSub, Nat.reduceBEq, if_true, if_false, Bool.false_eq_true, ↓reduceIte, Option.bind_some, Option.map_some, Bool.or_self, Bool.false_or, Bool.or_false, Bool.true_or, Bool.or_true, List.contains_nil, List.contains_cons, Bool.and_self, Bool.not_false, Bool.not_true, Bool.true_and, Bool.and_true, Bool.false_and, decide_true, decide_false, h1]
  | false => cases b2 with
    | true => simp (config := { decide := false }) only [↓runDef, gOf, slotOf, endMs, ↓seqE, ↓bindE, bindO_ok, bindO_ex, bindO_none, seqO_nx, seqO_rt, seqO_rn, seqO_bk, seqO_ct, seqO_ex, seqO_none, ↓retE, ↓failE, ↓ifE, ↓andE, ↓andK_t, ↓andK_f, ↓orE, ↓orK_t, ↓orK_f, ↓andBE, ↓andBK_t, ↓andBK_f, ↓orBE, ↓orBK_t, ↓orBK_f, ↓chE, ↓chK_t, ↓chK_f, ifO_t, ifO_f, ↓mVa, ↓mFz, ↓mNm, ↓mFrz, ↓mOp2, ↓mOp1, ↓f2E, ↓f1E, ↓fsE, ansO_some, ansO_none, rdAll, Hd.rd, D.flat, ↓mCons, ↓mCall, ↓mTup, ↓mLst, ↓mFrzs, dBool, dadd, dsub, dgt, dMax2, dMin2, ↓mSet, ↓mSetN, ↓mSetIx, mKindN, isKindN, mWr, beq_self_eq_true, Sl.cell, Sl.put, ↓mFrzM, argDs, argD, apartB, putMu, ↓mCallF, ↓mCallN, Hd.isNm, nmu, List.cons_append, List.nil_append, List.length_cons, List.length_nil, List.replicate_succ, List.replicate_zero, List.getElem?_cons_zero, List.getElem?_cons_succ, List.set_cons_zero, List.set_cons_succ, List.any_nil, List.any_cons, Nat.reduceAdd, Nat.reduceSub, Nat.reduceBEq, if_true, if_false, Bool.false_eq_true, ↓reduceIte, Option.bind_some, Option.map_some, Bool.or_self, Bool.false_or, Bool.or_false, Bool.true_or, Bool.or_true, List.contains_nil, List.contains_cons, Bool.and_self, Bool.not_false, Bool.not_true, Bool.true_and, Bool.and_true, Bool.false_and, decide_true, decide_false, h1, h2]
    | false =>
      obtain ⟨h3, h4, h5⟩ := h3 rfl rfl
      have e : dEq (.str x) (.str x) = some (.bl true) := by simp [dEq]
      simp (config := { decide := false }) only [↓runDef, gOf, slotOf, endMs, ↓seqE, ↓bindE, bindO_ok, bindO_ex, bindO_none, seqO_nx, seqO_rt, seqO_rn, seqO_bk, seqO_ct, seqO_ex, seqO_none, ↓retE, ↓failE, ↓ifE, ↓andE, ↓andK_t, ↓andK_f, ↓orE, ↓orK_t, ↓orK_f, ↓andBE, ↓andBK_t, ↓andBK_f, ↓orBE, ↓orBK_t, ↓orBK_f, ↓chE, ↓chK_t, ↓chK_f, ifO_t, ifO_f, ↓mVa, ↓mFz, ↓mNm, ↓mFrz, ↓mOp2, ↓mOp1, ↓f2E, ↓f1E, ↓fsE, ansO_some, ansO_none, rdAll, Hd.rd, D.flat, ↓mCons, ↓mCall, ↓mTup, ↓mLst, ↓mFrzs, dBool, dadd, dsub, dgt, dMax2, dMin2, ↓mSet, ↓mSetN, ↓mSetIx, mKindN, isKindN, mWr, beq_self_eq_true, Sl.cell, Sl.put, ↓mFrzM, argDs, argD, apartB, putMu, ↓mCallF, ↓mCallN, Hd.isNm, nmu, List.cons_append, List.nil_append, List.length_cons, List.length_nil, List.replicate_succ, List.replicate_zero, List.getElem?_cons_zero, List.getElem?_cons_succ, List.set_cons_zero, List.set_cons_succ, List.any_nil, List.any_cons, Nat.reduceAdd, Nat.reduceSub, Nat.reduceBEq, if_true, if_false, Bool.false_eq_true, ↓reduceIte, Option.bind_some, Option.map_some, Bool.or_self, Bool.false_or, Bool.or_false, Bool.true_or, Bool.or_true, List.contains_nil, List.contains_cons, Bool.and_self, Bool.not_false, Bool.not_true, Bool.true_and, Bool.and_true, Bool.false_and, decide_true, decide_false, h1, h2, h3, h4, h5, e]
theorem pik_t {g : Gm} {i : Nat} {X : List Row} {m1 m2 : M D} (h : g[i]? = some (.im (tb X))) : mPik i m1 m2 g = m1 g := by
  unfold mPik insAt
  rw [h]
  rfl
theorem pik_s {g : Gm} {i : Nat} {x : Str} {m1 m2 : M D} (h : g[i]? = some (.im (.str x))) : mPik i m1 m2 g = m2 g := by
  unfold mPik insAt
  rw [h]
  rfl
theorem eqs {g : Gm} {i : Nat} {x : Str} (h : g[i]? = some (.im (.str x))) : mOp2 dEq (mNm i) (mVa (M.ret (.str x))) g = some (.ok (.bl true) g) := by
  have e : dEq (.str x) (.str x) = some (.bl true) := by simp [dEq]
  have r := rd_im h
  simp (config := { decide := false }) only [↓runDef, gOf, slotOf, endMs, ↓seqE, ↓bindE, bindO_ok, bindO_ex, bindO_none, seqO_nx, seqO_rt, seqO_rn, seqO_bk, seqO_ct, seqO_ex, seqO_none, ↓retE, ↓failE, ↓ifE, ↓andE, ↓andK_t, ↓andK_f, ↓orE, ↓orK_t, ↓orK_f, ↓andBE, ↓andBK_t, ↓andBK_f, ↓orBE, ↓orBK_t, ↓orBK_f, ↓chE, ↓chK_t, ↓chK_f, ifO_t, ifO_f, ↓mVa, ↓mFz, ↓mNm, ↓mFrz, ↓mOp2, ↓mOp1, ↓f2E, ↓f1E, ↓fsE, ansO_some, ansO_none, rdAll, Hd.rd, D.flat, ↓mCons, ↓mCall, ↓mTup, ↓mLst, ↓mFrzs, dBool, dadd, dsub, dgt, dMax2, dMin2, ↓mSet, ↓mSetN, ↓mSetIx, mKindN, isKindN, mWr, beq_self_eq_true, Sl.cell, Sl.put, ↓mFrzM, argDs, argD, apartB, putMu, ↓mCallF, ↓mCallN, Hd.isNm, nmu, List.cons_append, List.nil_append, List.length_cons, List.length_nil, List.replicate_succ, List.replicate_zero, List.getElem?_cons_zero, List.getElem?_cons_succ, List.set_cons_zero, List.set_cons_succ, List.any_nil, List.any_cons, Nat.reduceAdd, Nat.reduceSub, Nat.reduceBEq, if_true, if_false, Bool.false_eq_true, ↓reduceIte, Option.bind_some, Option.map_some, Bool.or_self, Bool.false_or, Bool.or_false, Bool.true_or, Bool.or_true, List.contains_nil, List.contains_cons, Bool.and_self, Bool.not_false, Bool.not_true, Bool.true_and, Bool.and_true, Bool.false_and, decide_true, decide_false, h, r, e]
theorem text_m {g : Gm} {i : Nat} {X : List Row} (h : g[i]? = some (.im (tb X))) (k : Good X) : ((mNm i).bind (mMth0 [0] [.im] (fun _ => f_Table_text))) g = some (.ok (.str (text X)) g) := by
  have e := ttext_ok k
  have r := rd_im h
  have n := nm_im h
  have c := tb_clsN h
  generalize tb X = T at *
  simp (config := { decide := false }) only [↓runDef, gOf, slotOf, endMs, ↓seqE, ↓bindE, bindO_ok, bindO_ex, bindO_none, seqO_nx, seqO_rt, seqO_rn, seqO_bk, seqO_ct, seqO_ex, seqO_none, ↓retE, ↓failE, ↓ifE, ↓andE, ↓andK_t, ↓andK_f, ↓orE, ↓orK_t, ↓orK_f, ↓andBE, ↓andBK_t, ↓andBK_f, ↓orBE, ↓orBK_t, ↓orBK_f, ↓chE, ↓chK_t, ↓chK_f, ifO_t, ifO_f, ↓mVa, ↓mFz, ↓mNm, ↓mFrz, ↓mOp2, ↓mOp1, ↓f2E, ↓f1E, ↓fsE, ansO_some, ansO_none, rdAll, Hd.rd, D.flat, ↓mCons, ↓mCall, ↓mTup, ↓mLst, ↓mFrzs, dBool, dadd, dsub, dgt, dMax2, dMin2, ↓mSet, ↓mSetN, ↓mSetIx, mKindN, isKindN, mWr, beq_self_eq_true, Sl.cell, Sl.put, ↓mFrzM, argDs, argD, apartB, putMu, ↓mCallF, ↓mCallN, Hd.isNm, nmu, List.cons_append, List.nil_append, List.length_cons, List.length_nil, List.replicate_succ, List.replicate_zero, List.getElem?_cons_zero, List.getElem?_cons_succ, List.set_cons_zero, List.set_cons_succ, List.any_nil, List.any_cons, Nat.reduceAdd, Nat.reduceSub, Nat.reduceBEq, if_true, if_false, Bool.false_eq_true, ↓reduceIte, Option.bind_some, Option.map_some, Bool.or_self, Bool.false_or, Bool.or_false, Bool.true_or, Bool.or_true, List.contains_nil, List.contains_cons, Bool.and_self, Bool.not_false, Bool.not_true, Bool.true_and, Bool.and_true, Bool.false_and, decide_true, decide_false, n, mMth0, c, r, e, h]
theorem agree_n {u : Ky → Int} {d1 d2 : D} (h1 : Told (PD u) d1) (h2 : Told (PD u) d2) : f_x_law_agree [d1, d2] = some (.ret (.bl true) []) := by
  unfold f_x_law_agree m_x_law_agree
  rcases h1 with rfl | ⟨Z, ⟨tZ, kZ⟩, rfl⟩
  · rcases h2 with rfl | ⟨Y, ⟨tY, kY⟩, rfl⟩
    · exact agree_gen (b1 := true) (b2 := true) (x := "") rfl ((pik_s rfl).trans (eqs rfl)) ((pik_s rfl).trans (eqs rfl)) fun z => nomatch z
    · exact agree_gen (b1 := true) (b2 := false) (x := "") rfl ((pik_s rfl).trans (eqs rfl)) ((pik_t rfl).trans (eq_much rfl)) fun z => nomatch z
  · rcases h2 with rfl | ⟨Y, ⟨tY, kY⟩, rfl⟩
    · exact agree_gen (b1 := false) (b2 := true) (x := "") rfl ((pik_t rfl).trans (eq_much rfl)) ((pik_s rfl).trans (eqs rfl)) fun _ z => nomatch z
    · have e : Z = Y := tZ.uniq tY fun k => (kZ k).trans (kY k).symm
      subst e
      have gd := tZ.t.good (by decide) (by decide) (by decide)
      exact agree_gen (b1 := false) (b2 := false) rfl ((pik_t rfl).trans (eq_much rfl)) ((pik_t rfl).trans (eq_much rfl)) fun _ _ => ⟨op_ret (mt_nm rfl) (mt_nm rfl) (teq_n tZ.t.kk), text_m rfl gd, text_m rfl gd⟩
end Cq.K08

set_option Elab.async false
set_option linter.all false
set_option maxRecDepth 100000
set_option maxHeartbeats 1000000
namespace Cq.K08
open PySem PyProof.Rows L2 Cq Cq.Sh
/-! ### side by side -/
theorem mx_side (a b : List Row) : mx (side a b) = mx a + 1 + mx b := by
  have h1 := mx_ge a
  have h2 := mx_ge b
  have h3 := mx_ge (side a b)
  have le : mx (side a b) ≤ mx a + 1 + mx b := mx_le (by omega) fun r hr => by
    rcases List.mem_append.mp hr with hr | hr
    · have := mx_mem hr; omega
    · obtain ⟨q, hq, rfl⟩ := List.mem_map.mp hr
      have := mx_mem hq
      show q.l + (mx a + 1) ≤ _ ∧ q.r + (mx a + 1) ≤ _
      omega
  have g1 : mx a ≤ mx (side a b) := mx_le h3 fun r hr => mx_mem (List.mem_append_left _ hr)
  have g2 : mx b ≤ mx (side a b) - mx a - 1 := mx_le (by omega) fun q hq => by
    have : q.l + (mx a + 1) ≤ mx (side a b) ∧ q.r + (mx a + 1) ≤ mx (side a b) := mx_mem (r := sh (mx a + 1) q) (List.mem_append_right _ (List.mem_map_of_mem hq))
    omega
  omega
theorem sh_sh (m n : Int) (r : Row) : sh m (sh n r) = sh (m + n) r := by
  simp only [sh, Row.mk.injEq, true_and, and_true]
  constructor <;> omega
theorem side_side (a b c : List Row) : side (side a b) c = side a (side b c) := by
  have e : mx (side a b) + 1 = (mx a + 1) + (mx b + 1) := by rw [mx_side]; omega
  unfold side at e ⊢
  rw [e, List.map_append, List.append_assoc, List.map_map]
  congr 2
  exact List.map_congr_left fun r _ => (sh_sh _ _ r).symm
theorem side_l {a a' b : List Row} (p : a.Perm a') : (side a b).Perm (side a' b) := by
  unfold side
  rw [mx_perm p]
  exact p.append_right _
theorem side_r {a b b' : List Row} (p : b.Perm b') : (side a b).Perm (side a b') := (p.map _).append_left _
theorem or_assoc (a b c : List Row) : srt (side (srt (side a b)) c) = srt (side a (srt (side b c))) :=
  srt_eq ((side_l (srt_perm _)).trans (side_side a b c ▸ (side_r (srt_perm _)).symm))
theorem side_nil (a : List Row) : side a [] = a := List.append_nil a
theorem nil_side (a : List Row) : side [] a = a := by
  show a.map (sh 0) = a
  refine (List.map_congr_left fun r _ => ?_).trans (List.map_id a)
  simp [sh]
theorem srt_nil : srt [] = [] := (srt_perm []).eq_nil
theorem tv_nil {n : Nat} {v o : Int} : Tv n v o [] := ⟨⟨Nat.zero_le _, fun r h => (nomatch h), fun r h => (nomatch h), fun r h => (nomatch h), fun r h => (nomatch h), List.nodup_nil⟩, srt_nil⟩
theorem srt_one (r : Row) : srt [r] = [r] := by
  have := srt_perm [r]
  exact List.perm_singleton.mp this
/-! ### Table() and Table(row) -/
theorem mk0 {g : Gm} : mMk 0 f_Table___init [.tup []] g = some (.ok (tb []) g) := by
  have e := tinit_ok (rs := []) ⟨by decide, fun r h => (nomatch h), List.nodup_nil⟩
  rw [srt_nil] at e
  have e : f_Table___init [.ins 0 [], .tup []] = some (.ret .non [tb []]) := e
  unfold mMk
  rw [e]
theorem mkA_ok {g : Gm} {rs : List Row} {ma : M (List Hd)} {hs : List Hd} (h : Good rs) (e1 : ma g = some (.ok hs g)) (e2 : mFrzs hs g = some (.ok (rs.map Row.d) g)) : mMkA 0 f_Table___init ma g = some (.ok (tb (srt rs)) g) := by
  have e := tinit_ok h
  have l : (rs.map Row.d).length ≤ 1000000 := by rw [List.length_map]; have := h.len; omega
  unfold mMkA M.bind
  simp only [e1, e2]
  rw [if_pos l]
  unfold mMk
  rw [e]
/-! ### a table row by row -/
theorem cnt_consE (r : Row) (rs : List Row) (k : Ky) : Sh.cnt (r :: rs) k = Sh.cnt [r] k + Sh.cnt rs k := cnt_app [r] rs k
theorem one_v {n : Nat} {o : Int} {a : List Row} {r : Row} (h : Tn n 9 o a) (hr : r ∈ a) : Tv 1 9 o [r] := ⟨⟨Nat.le_refl _, fun x hx => by rw [List.mem_singleton.mp hx]; exact h.kk r hr, fun x hx => by rw [List.mem_singleton.mp hx]; exact h.l0 r hr, fun x hx => by rw [List.mem_singleton.mp hx]; exact h.r0 r hr, fun x hx => by rw [List.mem_singleton.mp hx]; exact h.o0 r hr, by simp⟩, srt_one r⟩
theorem row_step {a F : List Row} {r : Row} {n : Nat} (ta : T3 a) (hr : r ∈ a) (tF : Tv n 9 (4 * n) F) (hn : n ≤ 3) : ∃ c, Tv (n + 1) 9 (4 * ((n + 1 : Nat) : Int)) c ∧ (∀ k, Sh.cnt c k = Sh.cnt [r] k + Sh.cnt F k) ∧ b_x_law_of_rows_2 [.im (tb a), .im (tb F), .im r.d] = some (.ok .nx [.im (tb a), .im (tb c), .im r.d]) := by
  have t1 := one_v ta.t hr
  obtain ⟨c, tc, kc, e⟩ := add_v t1 tF (by omega) (by decide) (by decide) (by omega) (by omega)
  refine ⟨c, ⟨tc.t.mono (by omega) (Int.le_refl _) (by omega), tc.s⟩, kc, ?_⟩
  have m : mMkA 0 f_Table___init (mCons (mNm 2) (M.ret [])) [.im (tb a), .im (tb F), .im r.d] = some (.ok (tb [r]) [.im (tb a), .im (tb F), .im r.d]) := by
    have := mkA_ok (g := [.im (tb a), .im (tb F), .im r.d]) (ma := mCons (mNm 2) (M.ret [])) (hs := [.nm 2]) (t1.t.good (by decide) (by decide) (by decide)) rfl rfl
    rwa [srt_one] at this
  have s := op_ret (mt_va m) (mt_nm (i := 1) (X := F) rfl) e
  unfold b_x_law_of_rows_2 mSet
  generalize mIopA 0 (fun h h2 => mCallF [.im, .im] f_Table___add [h, h2]) (mVa (mMkA 0 f_Table___init (mCons (mNm 2) (M.ret [])))) (mNm 1) = M1 at *
  simp (config := { decide := false }) only [↓runDef, gOf, slotOf, endMs, ↓seqE, ↓bindE, bindO_ok, bindO_ex, bindO_none, seqO_nx, seqO_rt, seqO_rn, seqO_bk, seqO_ct, seqO_ex, seqO_none, ↓retE, ↓failE, ↓ifE, ↓andE, ↓andK_t, ↓andK_f, ↓orE, ↓orK_t, ↓orK_f, ↓andBE, ↓andBK_t, ↓andBK_f, ↓orBE, ↓orBK_t, ↓orBK_f, ↓chE, ↓chK_t, ↓chK_f, ifO_t, ifO_f, ↓mVa, ↓mFz, ↓mNm, ↓mFrz, ↓mOp2, ↓mOp1, ↓f2E, ↓f1E, ↓fsE, ansO_some, ansO_none, rdAll, Hd.rd, D.flat, ↓mCons, ↓mCall, ↓mTup, ↓mLst, ↓mFrzs, dBool, dadd, dsub, dgt, dMax2, dMin2, ↓mSet, ↓mSetN, ↓mSetIx, mKindN, isKindN, mWr, beq_self_eq_true, Sl.cell, Sl.put, ↓mFrzM, argDs, argD, apartB, putMu, ↓mCallF, ↓mCallN, Hd.isNm, nmu, List.cons_append, List.nil_append, List.length_cons, List.length_nil, List.replicate_succ, List.replicate_zero, List.getElem?_cons_zero, List.getElem?_cons_succ, List.set_cons_zero, List.set_cons_succ, List.any_nil, List.any_cons, Nat.reduceAdd, Nat.reduceSub, Nat.reduceBEq, if_true, if_false, Bool.false_eq_true, ↓reduceIte, Option.bind_some, Option.map_some, Bool.or_self, Bool.false_or, Bool.or_false, Bool.true_or, Bool.or_true, List.contains_nil, List.contains_cons, Bool.and_self, Bool.not_false, Bool.not_true, Bool.true_and, Bool.and_true, Bool.false_and, decide_true, decide_false, s]
theorem rows_loop {a : List Row} (ta : T3 a) : ∀ (rest done : List Row) (F : List Row) (s2 : Sl), done ++ rest = a → Tv done.length 9 (4 * (done.length : Int)) F → (∀ k, Sh.cnt F k = Sh.cnt done k) → ∃ z2, forL (tgNm 2) b_x_law_of_rows_2 (rest.map Row.d) [.im (tb a), .im (tb F), s2] = some (.ok .nx [.im (tb a), .im (tb a), z2])
  | [], done, F, s2, e, tF, kF => by
    rw [List.append_nil] at e
    subst e
    have : F = done := tF.uniq ta kF
    subst this
    exact ⟨s2, rfl⟩
  | r :: rest, done, F, s2, e, tF, kF => by
    have hl := ta.t.len
    have hr : r ∈ a := by rw [← e]; exact List.mem_append_right _ List.mem_cons_self
    have ln : done.length ≤ 3 := by rw [← e, List.length_append] at hl; omega
    obtain ⟨c, tc, kc, st⟩ := row_step ta hr tF ln
    have l1 : (done ++ [r]).length = done.length + 1 := by simp
    obtain ⟨z2, ih⟩ := rows_loop ta rest (done ++ [r]) c (.im r.d) (by rw [List.append_assoc]; exact e) (by rw [l1]; exact tc) fun k => by rw [kc, kF, cnt_app, Int.add_comm]
    refine ⟨z2, ?_⟩
    have tg : tgNm 2 r.d [.im (tb a), .im (tb F), s2] = some [.im (tb a), .im (tb F), .im r.d] := rfl
    simp only [List.map_cons, forL, tg, st, ih]
theorem of_rows_n {a : List Row} (ta : T3 a) : f_x_law_of_rows [tb a] = some (.ret (tb a) []) := by
  obtain ⟨z2, lp⟩ := rows_loop ta a [] [] .un rfl tv_nil fun _ => rfl
  have hi : i_x_law_of_rows_1 [.im (tb a), .im (tb []), .un] = some (.ok (a.map Row.d) [.im (tb a), .im (tb []), .un]) := by
    have p := tb_rowsN (rs := a) (g := [.im (tb a), .im (tb []), .un]) (i := 0) rfl
    have iv : itD (.tup (a.map Row.d)) = some (a.map Row.d) := rfl
    unfold i_x_law_of_rows_1 mIt
    generalize tb a = A at *
    generalize D.tup (a.map Row.d) = T at *
    simp (config := { decide := false }) only [↓runDef, gOf, slotOf, endMs, ↓seqE, ↓bindE, bindO_ok, bindO_ex, bindO_none, seqO_nx, seqO_rt, seqO_rn, seqO_bk, seqO_ct, seqO_ex, seqO_none, ↓retE, ↓failE, ↓ifE, ↓andE, ↓andK_t, ↓andK_f, ↓orE, ↓orK_t, ↓orK_f, ↓andBE, ↓andBK_t, ↓andBK_f, ↓orBE, ↓orBK_t, ↓orBK_f, ↓chE, ↓chK_t, ↓chK_f, ifO_t, ifO_f, ↓mVa, ↓mFz, ↓mNm, ↓mFrz, ↓mOp2, ↓mOp1, ↓f2E, ↓f1E, ↓fsE, ansO_some, ansO_none, rdAll, Hd.rd, D.flat, ↓mCons, ↓mCall, ↓mTup, ↓mLst, ↓mFrzs, dBool, dadd, dsub, dgt, dMax2, dMin2, ↓mSet, ↓mSetN, ↓mSetIx, mKindN, isKindN, mWr, beq_self_eq_true, Sl.cell, Sl.put, ↓mFrzM, argDs, argD, apartB, putMu, ↓mCallF, ↓mCallN, Hd.isNm, nmu, List.cons_append, List.nil_append, List.length_cons, List.length_nil, List.replicate_succ, List.replicate_zero, List.getElem?_cons_zero, List.getElem?_cons_succ, List.set_cons_zero, List.set_cons_succ, List.any_nil, List.any_cons, Nat.reduceAdd, Nat.reduceSub, Nat.reduceBEq, if_true, if_false, Bool.false_eq_true, ↓reduceIte, Option.bind_some, Option.map_some, Bool.or_self, Bool.false_or, Bool.or_false, Bool.true_or, Bool.or_true, List.contains_nil, List.contains_cons, Bool.and_self, Bool.not_false, Bool.not_true, Bool.true_and, Bool.and_true, Bool.false_and, decide_true, decide_false, p, iv]
  have fo : mFor none i_x_law_of_rows_1 (tgNm 2) b_x_law_of_rows_2 [.im (tb a), .im (tb []), .un] = some (.ok .nx [.im (tb a), .im (tb a), z2]) := by
    rw [for_none hi, back_none]
    exact lp
  have m0 := mk0 (g := [.im (tb a), .un, .un])
  unfold f_x_law_of_rows m_x_law_of_rows
  generalize mMk 0 f_Table___init [.tup []] = M0 at *
  generalize tb a = A at *
  generalize i_x_law_of_rows_1 = i1 at *
  generalize b_x_law_of_rows_2 = b2 at *
  simp (config := { decide := false }) only [↓runDef, gOf, slotOf, endMs, ↓seqE, ↓bindE, bindO_ok, bindO_ex, bindO_none, seqO_nx, seqO_rt, seqO_rn, seqO_bk, seqO_ct, seqO_ex, seqO_none, ↓retE, ↓failE, ↓ifE, ↓andE, ↓andK_t, ↓andK_f, ↓orE, ↓orK_t, ↓orK_f, ↓andBE, ↓andBK_t, ↓andBK_f, ↓orBE, ↓orBK_t, ↓orBK_f, ↓chE, ↓chK_t, ↓chK_f, ifO_t, ifO_f, ↓mVa, ↓mFz, ↓mNm, ↓mFrz, ↓mOp2, ↓mOp1, ↓f2E, ↓f1E, ↓fsE, ansO_some, ansO_none, rdAll, Hd.rd, D.flat, ↓mCons, ↓mCall, ↓mTup, ↓mLst, ↓mFrzs, dBool, dadd, dsub, dgt, dMax2, dMin2, ↓mSet, ↓mSetN, ↓mSetIx, mKindN, isKindN, mWr, beq_self_eq_true, Sl.cell, Sl.put, ↓mFrzM, argDs, argD, apartB, putMu, ↓mCallF, ↓mCallN, Hd.isNm, nmu, List.cons_append, List.nil_append, List.length_cons, List.length_nil, List.replicate_succ, List.replicate_zero, List.getElem?_cons_zero, List.getElem?_cons_succ, List.set_cons_zero, List.set_cons_succ, List.any_nil, List.any_cons, Nat.reduceAdd, Nat.reduceSub, Nat.reduceBEq, if_true, if_false, Bool.false_eq_true, ↓reduceIte, Option.bind_some, Option.map_some, Bool.or_self, Bool.false_or, Bool.or_false, Bool.true_or, Bool.or_true, List.contains_nil, List.contains_cons, Bool.and_self, Bool.not_false, Bool.not_true, Bool.true_and, Bool.and_true, Bool.false_and, decide_true, decide_false, m0, fo]
/-! ### often, k times -/
def sc (k : Int) (r : Row) : Row := ⟨r.k, r.l, r.r, r.o * k⟩
theorem cnt_sc (k : Int) (x : Ky) : ∀ a : List Row, Sh.cnt (a.map (sc k)) x = Sh.cnt a x * k
  | [] => by
    show (0 : Int) = 0 * k
    rw [Int.zero_mul]
  | r :: a => by
    rw [List.map_cons, cnt_consE (sc k r), cnt_consE r, cnt_sc k x a, Int.add_mul, cnt_one, cnt_one]
    congr 1
    have e : (sc k r).key = r.key := rfl
    rw [e]
    split
    · rfl
    · rw [Int.zero_mul]
theorem sc_Tn {n : Nat} {v o k : Int} {a : List Row} (h : Tn n v o a) (k0 : 1 ≤ k) : Tn n v (o * k) (a.map (sc k)) := by
  refine ⟨by rw [List.length_map]; exact h.len, fun x hx => ?_, fun x hx => ?_, fun x hx => ?_, fun x hx => ?_, by rw [List.map_map]; exact h.nd⟩ <;> obtain ⟨r, hr, rfl⟩ := List.mem_map.mp hx
  · exact h.kk r hr
  · exact h.l0 r hr
  · exact h.r0 r hr
  · have := h.o0 r hr
    show 1 ≤ r.o * k ∧ r.o * k ≤ o * k
    refine ⟨?_, Int.mul_le_mul_of_nonneg_right this.2 (by omega)⟩
    have : 1 * 1 ≤ r.o * k := Int.mul_le_mul this.1 k0 (by decide) (by omega)
    simpa using this
theorem ix3 (r : Row) : dIx r.d (.int 3) = some (.int r.o) := rfl
theorem mul_row (k : Int) (r : Row) (hk : k.natAbs < 2 ^ 64) : dMul (.int k) (.int r.o) = some (.int (r.o * k)) := by rw [dmull hk, Int.mul_comm]
theorem scaled_v {a : List Row} {k : Int} (ta : T3 a) (k0 : 1 ≤ k) (k5 : k ≤ 5) : Tv 3 9 (4 * k) (srt (a.map (sc k))) ∧ f_Table_scaled [tb a, .int k] = some (.ret (tb (srt (a.map (sc k)))) []) := by
  have t := sc_Tn ta.t k0
  refine ⟨tv_srt t, ?_⟩
  have b := between_ok (d := .int k) (lo := 1) (hi := 100) rfl
  have c1 : decide (1 ≤ k) = true := decide_eq_true k0
  have c2 : decide (k ≤ 100) = true := decide_eq_true (by omega)
  have hi : i_Table_scaled_1 [.im (tb a), .im (.int k), .un] = some (.ok (a.map Row.d) [.im (tb a), .im (.int k), .un]) := by
    have hf := tb_fld (rs := a) (g := [.im (tb a), .im (.int k), .un]) (i := 0) rfl
    unfold i_Table_scaled_1 mIt
    simp (config := { decide := false }) only [↓runDef, gOf, slotOf, endMs, ↓seqE, ↓bindE, bindO_ok, bindO_ex, bindO_none, seqO_nx, seqO_rt, seqO_rn, seqO_bk, seqO_ct, seqO_ex, seqO_none, ↓retE, ↓failE, ↓ifE, ↓andE, ↓andK_t, ↓andK_f, ↓orE, ↓orK_t, ↓orK_f, ↓andBE, ↓andBK_t, ↓andBK_f, ↓orBE, ↓orBK_t, ↓orBK_f, ↓chE, ↓chK_t, ↓chK_f, ifO_t, ifO_f, ↓mVa, ↓mFz, ↓mNm, ↓mFrz, ↓mOp2, ↓mOp1, ↓f2E, ↓f1E, ↓fsE, ansO_some, ansO_none, rdAll, Hd.rd, D.flat, ↓mCons, ↓mCall, ↓mTup, ↓mLst, ↓mFrzs, dBool, dadd, dsub, dgt, dMax2, dMin2, ↓mSet, ↓mSetN, ↓mSetIx, mKindN, isKindN, mWr, beq_self_eq_true, Sl.cell, Sl.put, ↓mFrzM, argDs, argD, apartB, putMu, ↓mCallF, ↓mCallN, Hd.isNm, nmu, List.cons_append, List.nil_append, List.length_cons, List.length_nil, List.replicate_succ, List.replicate_zero, List.getElem?_cons_zero, List.getElem?_cons_succ, List.set_cons_zero, List.set_cons_succ, List.any_nil, List.any_cons, Nat.reduceAdd, Nat.reduceSub, Nat.reduceBEq, if_true, if_false, Bool.false_eq_true, ↓reduceIte, Option.bind_some, Option.map_some, Bool.or_self, Bool.false_or, Bool.or_false, Bool.true_or, Bool.or_true, List.contains_nil, List.contains_cons, Bool.and_self, Bool.not_false, Bool.not_true, Bool.true_and, Bool.and_true, Bool.false_and, decide_true, decide_false, hf, itD]
  have hc : mLc none i_Table_scaled_1 [2] (tgNm 2) (M.ret true) e_Table_scaled_2 [.im (tb a), .im (.int k), .un] = some (.ok (.lst (a.map fun r => (sc k r).d)) [.im (tb a), .im (.int k), .un]) := by
    refine lc_map Row.d (fun r => (sc k r).d) hi rfl (by have := ta.t.len; omega) rfl rfl fun r hr => ⟨_, rfl, ?_, rfl⟩
    have m := mul_row k r (by omega)
    unfold e_Table_scaled_2
    simp (config := { decide := false }) only [↓runDef, gOf, slotOf, endMs, ↓seqE, ↓bindE, bindO_ok, bindO_ex, bindO_none, seqO_nx, seqO_rt, seqO_rn, seqO_bk, seqO_ct, seqO_ex, seqO_none, ↓retE, ↓failE, ↓ifE, ↓andE, ↓andK_t, ↓andK_f, ↓orE, ↓orK_t, ↓orK_f, ↓andBE, ↓andBK_t, ↓andBK_f, ↓orBE, ↓orBK_t, ↓orBK_f, ↓chE, ↓chK_t, ↓chK_f, ifO_t, ifO_f, ↓mVa, ↓mFz, ↓mNm, ↓mFrz, ↓mOp2, ↓mOp1, ↓f2E, ↓f1E, ↓fsE, ansO_some, ansO_none, rdAll, Hd.rd, D.flat, ↓mCons, ↓mCall, ↓mTup, ↓mLst, ↓mFrzs, dBool, dadd, dsub, dgt, dMax2, dMin2, ↓mSet, ↓mSetN, ↓mSetIx, mKindN, isKindN, mWr, beq_self_eq_true, Sl.cell, Sl.put, ↓mFrzM, argDs, argD, apartB, putMu, ↓mCallF, ↓mCallN, Hd.isNm, nmu, List.cons_append, List.nil_append, List.length_cons, List.length_nil, List.replicate_succ, List.replicate_zero, List.getElem?_cons_zero, List.getElem?_cons_succ, List.set_cons_zero, List.set_cons_succ, List.any_nil, List.any_cons, Nat.reduceAdd, Nat.reduceSub, Nat.reduceBEq, if_true, if_false, Bool.false_eq_true, ↓reduceIte, Option.bind_some, Option.map_some, Bool.or_self, Bool.false_or, Bool.or_false, Bool.true_or, Bool.or_true, List.contains_nil, List.contains_cons, Bool.and_self, Bool.not_false, Bool.not_true, Bool.true_and, Bool.and_true, Bool.false_and, decide_true, decide_false, lendOut, wipeG, mSl, dSome, cut_row, ix3, m, lit1, add_row]
    rfl
  have e : (a.map fun r => (sc k r).d) = (a.map (sc k)).map Row.d := by rw [List.map_map]; rfl
  rw [e] at hc
  have tt := tof_any (a.map (sc k))
  rw [tof_good (t.good (by decide) (by decide) (by omega))] at tt
  unfold f_Table_scaled m_Table_scaled
  simp (config := { decide := false }) only [↓runDef, gOf, slotOf, endMs, ↓seqE, ↓bindE, bindO_ok, bindO_ex, bindO_none, seqO_nx, seqO_rt, seqO_rn, seqO_bk, seqO_ct, seqO_ex, seqO_none, ↓retE, ↓failE, ↓ifE, ↓andE, ↓andK_t, ↓andK_f, ↓orE, ↓orK_t, ↓orK_f, ↓andBE, ↓andBK_t, ↓andBK_f, ↓orBE, ↓orBK_t, ↓orBK_f, ↓chE, ↓chK_t, ↓chK_f, ifO_t, ifO_f, ↓mVa, ↓mFz, ↓mNm, ↓mFrz, ↓mOp2, ↓mOp1, ↓f2E, ↓f1E, ↓fsE, ansO_some, ansO_none, rdAll, Hd.rd, D.flat, ↓mCons, ↓mCall, ↓mTup, ↓mLst, ↓mFrzs, dBool, dadd, dsub, dgt, dMax2, dMin2, ↓mSet, ↓mSetN, ↓mSetIx, mKindN, isKindN, mWr, beq_self_eq_true, Sl.cell, Sl.put, ↓mFrzM, argDs, argD, apartB, putMu, ↓mCallF, ↓mCallN, Hd.isNm, nmu, List.cons_append, List.nil_append, List.length_cons, List.length_nil, List.replicate_succ, List.replicate_zero, List.getElem?_cons_zero, List.getElem?_cons_succ, List.set_cons_zero, List.set_cons_succ, List.any_nil, List.any_cons, Nat.reduceAdd, Nat.reduceSub, Nat.reduceBEq, if_true, if_false, Bool.false_eq_true, ↓reduceIte, Option.bind_some, Option.map_some, Bool.or_self, Bool.false_or, Bool.or_false, Bool.true_or, Bool.or_true, List.contains_nil, List.contains_cons, Bool.and_self, Bool.not_false, Bool.not_true, Bool.true_and, Bool.and_true, Bool.false_and, decide_true, decide_false, b, btw, c1, c2, hc, tt]
end Cq.K08

set_option Elab.async false
set_option linter.all false
set_option maxRecDepth 100000
set_option maxHeartbeats 1000000
namespace Cq.K08
open PySem PyProof.Rows L2 Cq Cq.Sh
/-! ### k times the sum -/
theorem six_step {a F : List Row} {n : Nat} {s1 s2 s3 s4 s5 s6 s8 : Sl} (ta : T3 a) (tF : Tv 3 9 (4 * n) F) (kF : ∀ k, Sh.cnt F k = Sh.cnt a k * n) (hn : n ≤ 5) : ∃ c, Tv 3 9 (4 * ((n + 1 : Nat) : Int)) c ∧ (∀ k, Sh.cnt c k = Sh.cnt a k * ((n + 1 : Nat) : Int)) ∧
    b_x_law_are_right_6 [.im (tb a), s1, s2, s3, s4, s5, s6, .im (tb F), s8] = some (.ok .nx [.im (tb a), s1, s2, s3, s4, s5, s6, .im (tb c), s8]) := by
  obtain ⟨c, tc, kc, e⟩ := add_v tF ta (by decide) (by decide) (by omega) (by decide) (by omega)
  have kc2 : ∀ k, Sh.cnt c k = Sh.cnt a k * ((n + 1 : Nat) : Int) := fun k => by
    rw [kc, kF, Int.natCast_succ, Int.mul_add, Int.mul_one]
  have t2 := tv_srt (sc_Tn (k := ((n + 1 : Nat) : Int)) ta.t (by omega))
  have ec : c = srt (a.map (sc ((n + 1 : Nat) : Int))) := tc.uniq t2 fun k => by rw [kc2, cnt_perm (srt_perm _), cnt_sc]
  refine ⟨c, by rw [ec]; exact t2, kc2, ?_⟩
  have s := op_ret (g := [.im (tb a), s1, s2, s3, s4, s5, s6, .im (tb F), s8]) (mt_nm (i := 7) (X := F) rfl) (mt_nm (i := 0) (X := a) rfl) e
  unfold b_x_law_are_right_6 mSet
  generalize mIopA 0 (fun h h2 => mCallF [.im, .im] f_Table___add [h, h2]) (mNm 7) (mNm 0) = M1 at *
  simp (config := { decide := false }) only [↓runDef, gOf, slotOf, endMs, ↓seqE, ↓bindE, bindO_ok, bindO_ex, bindO_none, seqO_nx, seqO_rt, seqO_rn, seqO_bk, seqO_ct, seqO_ex, seqO_none, ↓retE, ↓failE, ↓ifE, ↓andE, ↓andK_t, ↓andK_f, ↓orE, ↓orK_t, ↓orK_f, ↓andBE, ↓andBK_t, ↓andBK_f, ↓orBE, ↓orBK_t, ↓orBK_f, ↓chE, ↓chK_t, ↓chK_f, ifO_t, ifO_f, ↓mVa, ↓mFz, ↓mNm, ↓mFrz, ↓mOp2, ↓mOp1, ↓f2E, ↓f1E, ↓fsE, ansO_some, ansO_none, rdAll, Hd.rd, D.flat, ↓mCons, ↓mCall, ↓mTup, ↓mLst, ↓mFrzs, dBool, dadd, dsub, dgt, dMax2, dMin2, ↓mSet, ↓mSetN, ↓mSetIx, mKindN, isKindN, mWr, beq_self_eq_true, Sl.cell, Sl.put, ↓mFrzM, argDs, argD, apartB, putMu, ↓mCallF, ↓mCallN, Hd.isNm, nmu, List.cons_append, List.nil_append, List.length_cons, List.length_nil, List.replicate_succ, List.replicate_zero, List.getElem?_cons_zero, List.getElem?_cons_succ, List.set_cons_zero, List.set_cons_succ, List.any_nil, List.any_cons, Nat.reduceAdd, Nat.reduceSub, Nat.reduceBEq, if_true, if_false, Bool.false_eq_true, ↓reduceIte, Option.bind_some, Option.map_some, Bool.or_self, Bool.false_or, Bool.or_false, Bool.true_or, Bool.or_true, List.contains_nil, List.contains_cons, Bool.and_self, Bool.not_false, Bool.not_true, Bool.true_and, Bool.and_true, Bool.false_and, decide_true, decide_false, s]
theorem six_loop {a : List Row} {s1 s2 s3 s4 s5 s6 : Sl} (ta : T3 a) : ∀ (q : List D) (n : Nat) (F : List Row) (s8 : Sl), n + q.length ≤ 5 → Tv 3 9 (4 * n) F → (∀ k, Sh.cnt F k = Sh.cnt a k * n) → ∃ c z8, Tv 3 9 (4 * ((n + q.length : Nat) : Int)) c ∧ (∀ k, Sh.cnt c k = Sh.cnt a k * ((n + q.length : Nat) : Int)) ∧
    forL (tgNm 8) b_x_law_are_right_6 q [.im (tb a), s1, s2, s3, s4, s5, s6, .im (tb F), s8] = some (.ok .nx [.im (tb a), s1, s2, s3, s4, s5, s6, .im (tb c), z8])
  | [], n, F, s8, _, tF, kF => ⟨F, s8, tF, kF, rfl⟩
  | d :: q, n, F, s8, hl, tF, kF => by
    rw [List.length_cons] at hl
    obtain ⟨c, tc, kc, st⟩ := six_step (s1 := s1) (s2 := s2) (s3 := s3) (s4 := s4) (s5 := s5) (s6 := s6) (s8 := .im d) ta tF kF (by omega)
    obtain ⟨c2, z8, t2, k2, ih⟩ := six_loop (s1 := s1) (s2 := s2) (s3 := s3) (s4 := s4) (s5 := s5) (s6 := s6) ta q (n + 1) c (.im d) (by omega) tc kc
    have e : n + 1 + q.length = n + (d :: q).length := by rw [List.length_cons]; omega
    rw [e] at t2
    simp only [e] at k2
    refine ⟨c2, z8, t2, k2, ?_⟩
    have tg : tgNm 8 d [.im (tb a), s1, s2, s3, s4, s5, s6, .im (tb F), s8] = some [.im (tb a), s1, s2, s3, s4, s5, s6, .im (tb F), .im d] := rfl
    simp only [forL, tg, st, ih]
theorem six_for {a : List Row} {k : Int} {s1 s2 s4 s5 s6 : Sl} (ta : T3 a) (k0 : 1 ≤ k) (k5 : k ≤ 5) : ∃ z8, mFor none i_x_law_are_right_5 (tgNm 8) b_x_law_are_right_6 [.im (tb a), s1, s2, .im (.int k), s4, s5, s6, .im (tb []), .un] = some (.ok .nx [.im (tb a), s1, s2, .im (.int k), s4, s5, s6, .im (tb (srt (a.map (sc k)))), z8]) := by
  have hi : i_x_law_are_right_5 [.im (tb a), s1, s2, .im (.int k), s4, s5, s6, .im (tb []), .un] = some (.ok (rngD 0 k.toNat) [.im (tb a), s1, s2, .im (.int k), s4, s5, s6, .im (tb []), .un]) := by
    have hr := rng_small (n := k) (by omega) (by omega)
    unfold i_x_law_are_right_5 mSrc
    simp (config := { decide := false }) only [↓runDef, gOf, slotOf, endMs, ↓seqE, ↓bindE, bindO_ok, bindO_ex, bindO_none, seqO_nx, seqO_rt, seqO_rn, seqO_bk, seqO_ct, seqO_ex, seqO_none, ↓retE, ↓failE, ↓ifE, ↓andE, ↓andK_t, ↓andK_f, ↓orE, ↓orK_t, ↓orK_f, ↓andBE, ↓andBK_t, ↓andBK_f, ↓orBE, ↓orBK_t, ↓orBK_f, ↓chE, ↓chK_t, ↓chK_f, ifO_t, ifO_f, ↓mVa, ↓mFz, ↓mNm, ↓mFrz, ↓mOp2, ↓mOp1, ↓f2E, ↓f1E, ↓fsE, ansO_some, ansO_none, rdAll, Hd.rd, D.flat, ↓mCons, ↓mCall, ↓mTup, ↓mLst, ↓mFrzs, dBool, dadd, dsub, dgt, dMax2, dMin2, ↓mSet, ↓mSetN, ↓mSetIx, mKindN, isKindN, mWr, beq_self_eq_true, Sl.cell, Sl.put, ↓mFrzM, argDs, argD, apartB, putMu, ↓mCallF, ↓mCallN, Hd.isNm, nmu, List.cons_append, List.nil_append, List.length_cons, List.length_nil, List.replicate_succ, List.replicate_zero, List.getElem?_cons_zero, List.getElem?_cons_succ, List.set_cons_zero, List.set_cons_succ, List.any_nil, List.any_cons, Nat.reduceAdd, Nat.reduceSub, Nat.reduceBEq, if_true, if_false, Bool.false_eq_true, ↓reduceIte, Option.bind_some, Option.map_some, Bool.or_self, Bool.false_or, Bool.or_false, Bool.true_or, Bool.or_true, List.contains_nil, List.contains_cons, Bool.and_self, Bool.not_false, Bool.not_true, Bool.true_and, Bool.and_true, Bool.false_and, decide_true, decide_false, hr]
  obtain ⟨c, z8, tc, kc, e⟩ := six_loop (s1 := s1) (s2 := s2) (s3 := .im (.int k)) (s4 := s4) (s5 := s5) (s6 := s6) ta (rngD 0 k.toNat) 0 [] .un (by simp [rngD]; omega) tv_nil fun x => by
    show (0 : Int) = _ * ((0 : Nat) : Int)
    simp
  have hk : ((0 + (rngD 0 k.toNat).length : Nat) : Int) = k := by simp [rngD]; omega
  rw [hk] at tc
  simp only [hk] at kc
  have ec : c = srt (a.map (sc k)) := tc.uniq (tv_srt (sc_Tn ta.t k0)) fun x => by rw [kc, cnt_perm (srt_perm _), cnt_sc]
  subst ec
  refine ⟨z8, ?_⟩
  rw [for_none hi, back_none]
  exact e
/-! ### the table that changes nothing -/
def base0 : List Row := [⟨"A", 0, 0, 1⟩, ⟨"B", 0, 0, 1⟩, ⟨"C", 0, 0, 1⟩]
theorem base_T : Tn 3 9 4 base0 := by
  refine ⟨by decide, fun r h => ?_, fun r h => ?_, fun r h => ?_, fun r h => ?_, by decide⟩ <;> simp only [base0, List.mem_cons, List.not_mem_nil, or_false] at h <;> rcases h with rfl | rfl | rfl <;> decide
theorem base_cnt {n : Nat} {o : Int} {a : List Row} (ta : Tn n 9 o a) (k : Ky) : Sh.cnt base0 (dec k) * Sh.cnt a (mdc k) = Sh.cnt a k := by
  by_cases h : k ∈ a.map Row.key
  · obtain ⟨r, hr, rfl⟩ := List.mem_map.mp h
    have l := ta.l0 r hr
    have q := ta.r0 r hr
    have kk := ta.kk r hr
    have e1 : dec r.key = (r.k, 0, 0) := by
      simp only [dec, Row.key, Prod.mk.injEq, true_and]
      constructor <;> omega
    have e2 : mdc r.key = r.key := by
      simp only [mdc, Row.key, Prod.mk.injEq, true_and]
      constructor <;> omega
    have e3 : Sh.cnt base0 (r.k, 0, 0) = 1 := by
      simp only [kinds, List.mem_cons, List.not_mem_nil, or_false] at kk
      rcases kk with e | e | e <;> rw [e] <;> decide
    rw [e1, e2, e3, Int.one_mul]
  · rw [cnt_none h]
    by_cases c : k.2.1 / 10 = 0 ∧ k.2.2 / 10 = 0
    · have e2 : mdc k = k := by
        obtain ⟨x, y, z⟩ := k
        simp only at c
        simp only [mdc, Prod.mk.injEq, true_and]
        constructor <;> omega
      rw [e2, cnt_none h, Int.mul_zero]
    · have e : Sh.cnt base0 (dec k) = 0 := cnt_none fun z => by
        obtain ⟨r, hr, e⟩ := List.mem_map.mp z
        refine c ?_
        simp only [base0, List.mem_cons, List.not_mem_nil, or_false] at hr
        have e1 : r.l = k.2.1 / 10 := congrArg (fun k : Ky => k.2.1) e
        have e2 : r.r = k.2.2 / 10 := congrArg (fun k : Ky => k.2.2) e
        rw [← e1, ← e2]
        rcases hr with rfl | rfl | rfl <;> exact ⟨rfl, rfl⟩
      rw [e, Int.zero_mul]
theorem base_mul {a : List Row} (ta : T3 a) : f_Table___mul [tb (srt base0), tb a] = some (.ret (tb a) []) := by
  have tb0 := tv_srt base_T
  rcases mul_v tb0 ta (by decide) (by decide) (by decide) (by decide) (by decide) (by decide) with ⟨c, tc, kc, e⟩ | ⟨l, _⟩
  · have : c = a := tc.uniq ta fun k => by rw [kc, cnt_perm (srt_perm _), base_cnt ta.t]
    rw [e, this]
  · exfalso
    have h1 := pairs_len (srt base0) a
    have h2 : (srt base0).length ≤ 3 := tb0.t.len
    have h3 := ta.t.len
    have : (srt base0).length * a.length ≤ 3 * 3 := Nat.mul_le_mul h2 h3
    omega
theorem add_nil {a : List Row} (ta : T3 a) : f_Table___add [tb a, tb []] = some (.ret (tb a) []) := by
  obtain ⟨c, tc, kc, e⟩ := add_v ta (tv_nil (n := 0) (v := 9) (o := 0)) (by decide) (by decide) (by decide) (by decide) (by decide)
  have : c = a := tc.uniq ta fun k => by
    rw [kc]
    show _ + (0 : Int) = _
    omega
  rw [e, this]
theorem nil_mul {a : List Row} (ta : T3 a) : f_Table___mul [tb [], tb a] = some (.ret (tb []) []) := by
  rcases mul_v (tv_nil (n := 0) (v := 9) (o := 0)) ta (by decide) (by decide) (by decide) (by decide) (by decide) (by decide) with ⟨c, tc, kc, e⟩ | ⟨l, _⟩
  · have : c = [] := tc.uniq (tv_nil (n := 0) (v := 9) (o := 0)) fun k => by
      rw [kc]
      show (0 : Int) * _ = 0
      rw [Int.zero_mul]
    rw [e, this]
  · exfalso
    have : (pairs [] a).length = 0 := rfl
    omega
/-! ### one lap's question -/
theorem right_gen {mb q1 q2 q3 r1 r2 r3 t1 t2 t3 t4 m0 w1 w2 w3 w4 : M D} {i5 : M (List D)} {b6 : M Fl} {fag : Fn} {A B C K Bs d1 d2 d3 d4 E F7 : D} {z8 : Sl}
    (hb : mb [.im A, .im B, .im C, .im K, .un, .un, .un, .un, .un] = some (.ok Bs [.im A, .im B, .im C, .im K, .un, .un, .un, .un, .un]))
    (hq1 : q1 [.im A, .im B, .im C, .im K, .im Bs, .un, .un, .un, .un] = some (.ok (.bl false) [.im A, .im B, .im C, .im K, .im Bs, .un, .un, .un, .un]))
    (hq2 : q2 [.im A, .im B, .im C, .im K, .im Bs, .un, .un, .un, .un] = some (.ok (.bl false) [.im A, .im B, .im C, .im K, .im Bs, .un, .un, .un, .un]))
    (hq3 : q3 [.im A, .im B, .im C, .im K, .im Bs, .un, .un, .un, .un] = some (.ok (.bl false) [.im A, .im B, .im C, .im K, .im Bs, .un, .un, .un, .un]))
    (hr1 : r1 [.im A, .im B, .im C, .im K, .im Bs, .un, .un, .un, .un] = some (.ok (.bl false) [.im A, .im B, .im C, .im K, .im Bs, .un, .un, .un, .un]))
    (hr2 : r2 [.im A, .im B, .im C, .im K, .im Bs, .un, .un, .un, .un] = some (.ok (.bl false) [.im A, .im B, .im C, .im K, .im Bs, .un, .un, .un, .un]))
    (hr3 : r3 [.im A, .im B, .im C, .im K, .im Bs, .un, .un, .un, .un] = some (.ok (.bl false) [.im A, .im B, .im C, .im K, .im Bs, .un, .un, .un, .un]))
    (ht1 : t1 [.im A, .im B, .im C, .im K, .im Bs, .un, .un, .un, .un] = some (.ok d1 [.im A, .im B, .im C, .im K, .im Bs, .un, .un, .un, .un]))
    (ht2 : t2 [.im A, .im B, .im C, .im K, .im Bs, .im d1, .un, .un, .un] = some (.ok d2 [.im A, .im B, .im C, .im K, .im Bs, .im d1, .un, .un, .un]))
    (hg1 : fag [d1, d2] = some (.ret (.bl true) []))
    (ht3 : t3 [.im A, .im B, .im C, .im K, .im Bs, .im d1, .im d2, .un, .un] = some (.ok d3 [.im A, .im B, .im C, .im K, .im Bs, .im d1, .im d2, .un, .un]))
    (ht4 : t4 [.im A, .im B, .im C, .im K, .im Bs, .im d3, .im d2, .un, .un] = some (.ok d4 [.im A, .im B, .im C, .im K, .im Bs, .im d3, .im d2, .un, .un]))
    (hg2 : fag [d3, d4] = some (.ret (.bl true) []))
    (h0 : m0 [.im A, .im B, .im C, .im K, .im Bs, .im d3, .im d4, .un, .un] = some (.ok E [.im A, .im B, .im C, .im K, .im Bs, .im d3, .im d4, .un, .un]))
    (hf : mFor none i5 (tgNm 8) b6 [.im A, .im B, .im C, .im K, .im Bs, .im d3, .im d4, .im E, .un] = some (.ok .nx [.im A, .im B, .im C, .im K, .im Bs, .im d3, .im d4, .im F7, z8]))
    (hw1 : w1 [.im A, .im B, .im C, .im K, .im Bs, .im d3, .im d4, .im F7, z8] = some (.ok (.bl true) [.im A, .im B, .im C, .im K, .im Bs, .im d3, .im d4, .im F7, z8]))
    (hw2 : w2 [.im A, .im B, .im C, .im K, .im Bs, .im d3, .im d4, .im F7, z8] = some (.ok (.bl true) [.im A, .im B, .im C, .im K, .im Bs, .im d3, .im d4, .im F7, z8]))
    (hw3 : w3 [.im A, .im B, .im C, .im K, .im Bs, .im d3, .im d4, .im F7, z8] = some (.ok (.bl true) [.im A, .im B, .im C, .im K, .im Bs, .im d3, .im d4, .im F7, z8]))
    (hw4 : w4 [.im A, .im B, .im C, .im K, .im Bs, .im d3, .im d4, .im F7, z8] = some (.ok (.bl true) [.im A, .im B, .im C, .im K, .im Bs, .im d3, .im d4, .im F7, z8])) :
    runDef [.im, .im, .im, .im] 9 (mSeq (mSet 4 mb)
    (mSeq ((mOrB (q1.bind dBool) (mOrB (q2.bind dBool) (q3.bind dBool))).bind fun k => if k = true then ((M.ret (.bl false)).bind fun d => M.ret (.rt d)) else (M.ret .nx))
    (mSeq ((mOrB (r1.bind dBool) (mOrB (r2.bind dBool) (r3.bind dBool))).bind fun k => if k = true then ((M.ret (.bl false)).bind fun d => M.ret (.rt d)) else (M.ret .nx))
    (mSeq (mSet 5 t1)
    (mSeq (mSet 6 t2)
    (mSeq (((((mCons (mNm 5) (mCons (mNm 6) (M.ret []))).bind (mCallF [.im, .im] fag)).bind dBool).bind fun c => M.ret (!c)).bind fun k => if k = true then ((M.ret (.bl false)).bind fun d => M.ret (.rt d)) else (M.ret .nx))
    (mSeq (mSet 5 t3)
    (mSeq (mSet 6 t4)
    (mSeq (((((mCons (mNm 5) (mCons (mNm 6) (M.ret []))).bind (mCallF [.im, .im] fag)).bind dBool).bind fun c => M.ret (!c)).bind fun k => if k = true then ((M.ret (.bl false)).bind fun d => M.ret (.rt d)) else (M.ret .nx))
    (mSeq (mSet 7 m0)
    (mSeq (mFor none i5 (tgNm 8) b6)
    ((mAndD w1 (mAndD w2 (mAndD w3 w4))).bind fun d => M.ret (.rt d)))))))))))))  [A, B, C, K] = some (.ret (.bl true) []) := by
  simp (config := { decide := false }) only [↓runDef, gOf, slotOf, endMs, ↓seqE, ↓bindE, bindO_ok, bindO_ex, bindO_none, seqO_nx, seqO_rt, seqO_rn, seqO_bk, seqO_ct, seqO_ex, seqO_none, ↓retE, ↓failE, ↓ifE, ↓andE, ↓andK_t, ↓andK_f, ↓orE, ↓orK_t, ↓orK_f, ↓andBE, ↓andBK_t, ↓andBK_f, ↓orBE, ↓orBK_t, ↓orBK_f, ↓chE, ↓chK_t, ↓chK_f, ifO_t, ifO_f, ↓mVa, ↓mFz, ↓mNm, ↓mFrz, ↓mOp2, ↓mOp1, ↓f2E, ↓f1E, ↓fsE, ansO_some, ansO_none, rdAll, Hd.rd, D.flat, ↓mCons, ↓mCall, ↓mTup, ↓mLst, ↓mFrzs, dBool, dadd, dsub, dgt, dMax2, dMin2, ↓mSet, ↓mSetN, ↓mSetIx, mKindN, isKindN, mWr, beq_self_eq_true, Sl.cell, Sl.put, ↓mFrzM, argDs, argD, apartB, putMu, ↓mCallF, ↓mCallN, Hd.isNm, nmu, List.cons_append, List.nil_append, List.length_cons, List.length_nil, List.replicate_succ, List.replicate_zero, List.getElem?_cons_zero, List.getElem?_cons_succ, List.set_cons_zero, List.set_cons_succ, List.any_nil, List.any_cons, Nat.reduceAdd, Nat.reduceSub, Nat.reduceBEq, if_true, if_false, Bool.false_eq_true, ↓reduceIte, Option.bind_some, Option.map_some, Bool.or_self, Bool.false_or, Bool.or_false, Bool.true_or, Bool.or_true, List.contains_nil, List.contains_cons, Bool.and_self, Bool.not_false, Bool.not_true, Bool.true_and, Bool.and_true, Bool.false_and, decide_true, decide_false, hb, hq1, hq2, hq3, hr1, hr2, hr3, ht1, ht2, hg1, ht3, ht4, hg2, h0, hf, hw1, hw2, hw3, hw4]
end Cq.K08

set_option Elab.async false
set_option linter.all false
set_option maxRecDepth 100000
set_option maxHeartbeats 1000000
namespace Cq.K08
open PySem PyProof.Rows L2 Cq Cq.Sh
/-! ### drawn rows, with bounds -/
structure Bnd (v o : Int) (r : Row) : Prop where
  kk : r.k ∈ kinds
  bl : 0 ≤ r.l ∧ r.l ≤ v
  br : 0 ≤ r.r ∧ r.r ≤ v
  bo : 1 ≤ r.o ∧ r.o ≤ max 2 o
theorem lines_stepB {s : So} {most v o many : Int} {ks : List Str} {found : List Row} {s7 s8 s9 : Sl} (hv : 0 ≤ v ∧ v ≤ 99) (ho : 1 ≤ o ∧ o ≤ 10000) (k0 : ks ≠ []) (k3 : ks.length ≤ 3) (kk : ∀ k ∈ ks, k ∈ kinds) (hf : ∀ r ∈ found, r.k ∈ kinds) (hl : found.length ≤ 1000) :
    ∃ s' found' z8 z9, b_x_law_lines_3 [.mb (so s), .im (.int most), .im (.int v), .im (.int o), .ow (.lst (found.map Row.d)), .im (.int many), .im (.lst (ks.map .str)), s7, s8, s9, .un] =
      some (.ok .nx [.mb (so s'), .im (.int most), .im (.int v), .im (.int o), .ow (.lst (found'.map Row.d)), .im (.int many), .im (.lst (ks.map .str)), s7, z8, z9, .un]) ∧ (found' = found ∨ ∃ r : Row, Bnd v o r ∧ found' = found ++ [r] ∧ r.key ∉ found.map Row.key) := by
  obtain ⟨k', hk', s1, e1⟩ := choose_l (xs := ks.map D.str) s (by simpa using k0) (by simp; omega)
  obtain ⟨k, hk, rfl⟩ := List.mem_map.mp hk'
  obtain ⟨l, s2, e2, l0, l1⟩ := draw1 s1 (v + 1) (by omega) (by omega)
  obtain ⟨r, s3, e3, r0, r1⟩ := draw1 s2 (v + 1) (by omega) (by omega)
  obtain ⟨t, s4, e4, t0, t1⟩ := draw1 s3 o (by omega) (by omega)
  obtain ⟨n', hn', s5, e5⟩ := choose_l (xs := [.int 1, .int 2, .int (1 + t), .int o]) s4 (by simp) (by simp)
  obtain ⟨n, rfl, n0, n1⟩ : ∃ n : Int, n' = .int n ∧ 1 ≤ n ∧ n ≤ max 2 o := by
    simp only [List.mem_cons, List.not_mem_nil, or_false] at hn'
    rcases hn' with rfl | rfl | rfl | rfl
    · exact ⟨_, rfl, by omega, by omega⟩
    · exact ⟨_, rfl, by omega, by omega⟩
    · exact ⟨_, rfl, by omega, by omega⟩
    · exact ⟨_, rfl, by omega, by omega⟩
  have kin := kk k hk
  have hc : mLc (some 4) (mItN 4) [10] (tgNm 10) c_x_law_lines_1 (mFz 10) [.mb (so s5), .im (.int most), .im (.int v), .im (.int o), .ow (.lst (found.map Row.d)), .im (.int many), .im (.lst (ks.map .str)), s7, .im (kd (k, l, r)), .im (.int n), .un] =
      some (.ok (.lst ((found.filter fun r' => decide (r'.key = (k, l, r))).map Row.d)) [.mb (so s5), .im (.int most), .im (.int v), .im (.int o), .ow (.lst (found.map Row.d)), .im (.int many), .im (.lst (ks.map .str)), s7, .im (kd (k, l, r)), .im (.int n), .un]) := by
    refine lc_filter Row.d Row.d _ rfl rfl (by omega) rfl rfl fun r' hr' => ?_
    refine ⟨_, rfl, ?_, fun _ => rfl, rfl⟩
    have de := deq_key (x := r'.key) (y := (k, l, r)) (hf r' hr') kin
    unfold c_x_law_lines_1
    simp (config := { decide := false }) only [↓runDef, gOf, slotOf, endMs, ↓seqE, ↓bindE, bindO_ok, bindO_ex, bindO_none, seqO_nx, seqO_rt, seqO_rn, seqO_bk, seqO_ct, seqO_ex, seqO_none, ↓retE, ↓failE, ↓ifE, ↓andE, ↓andK_t, ↓andK_f, ↓orE, ↓orK_t, ↓orK_f, ↓andBE, ↓andBK_t, ↓andBK_f, ↓orBE, ↓orBK_t, ↓orBK_f, ↓chE, ↓chK_t, ↓chK_f, ifO_t, ifO_f, ↓mVa, ↓mFz, ↓mNm, ↓mFrz, ↓mOp2, ↓mOp1, ↓f2E, ↓f1E, ↓fsE, ansO_some, ansO_none, rdAll, Hd.rd, D.flat, ↓mCons, ↓mCall, ↓mTup, ↓mLst, ↓mFrzs, dBool, dadd, dsub, dgt, dMax2, dMin2, ↓mSet, ↓mSetN, ↓mSetIx, mKindN, isKindN, mWr, beq_self_eq_true, Sl.cell, Sl.put, ↓mFrzM, argDs, argD, apartB, putMu, ↓mCallF, ↓mCallN, Hd.isNm, nmu, List.cons_append, List.nil_append, List.length_cons, List.length_nil, List.replicate_succ, List.replicate_zero, List.getElem?_cons_zero, List.getElem?_cons_succ, List.set_cons_zero, List.set_cons_succ, List.any_nil, List.any_cons, Nat.reduceAdd, Nat.reduceSub, Nat.reduceBEq, if_true, if_false, Bool.false_eq_true, ↓reduceIte, Option.bind_some, Option.map_some, Bool.or_self, Bool.false_or, Bool.or_false, Bool.true_or, Bool.or_true, List.contains_nil, List.contains_cons, Bool.and_self, Bool.not_false, Bool.not_true, Bool.true_and, Bool.and_true, Bool.false_and, decide_true, decide_false, lendOut, wipeG, mSl, dSome, cut_row, de]
  have hd : ∀ q : D, dEq q (.lst []) = dEq q (.lst []) := fun _ => rfl
  have de := deq_nil (rs := found.filter fun r' => decide (r'.key = (k, l, r))) fun r' hr' => hf r' (List.mem_filter.mp hr').1
  have ck : (D.tup [.str k, .int l, .int r]) = kd (k, l, r) := rfl
  by_cases m : (k, l, r) ∈ found.map Row.key
  · have ne : (found.filter fun r' => decide (r'.key = (k, l, r))).isEmpty = false := by
      obtain ⟨r', h1, h2⟩ := List.mem_map.mp m
      cases q : found.filter fun r' => decide (r'.key = (k, l, r)) with
      | nil =>
        have : r' ∈ found.filter fun r' => decide (r'.key = (k, l, r)) := List.mem_filter.mpr ⟨h1, decide_eq_true h2⟩
        rw [q] at this; cases this
      | cons _ _ => rfl
    refine ⟨s5, found, .im (kd (k, l, r)), .im (.int n), ?_, .inl rfl⟩
    unfold b_x_law_lines_3
    simp (config := { decide := false }) only [↓runDef, gOf, slotOf, endMs, ↓seqE, ↓bindE, bindO_ok, bindO_ex, bindO_none, seqO_nx, seqO_rt, seqO_rn, seqO_bk, seqO_ct, seqO_ex, seqO_none, ↓retE, ↓failE, ↓ifE, ↓andE, ↓andK_t, ↓andK_f, ↓orE, ↓orK_t, ↓orK_f, ↓andBE, ↓andBK_t, ↓andBK_f, ↓orBE, ↓orBK_t, ↓orBK_f, ↓chE, ↓chK_t, ↓chK_f, ifO_t, ifO_f, ↓mVa, ↓mFz, ↓mNm, ↓mFrz, ↓mOp2, ↓mOp1, ↓f2E, ↓f1E, ↓fsE, ansO_some, ansO_none, rdAll, Hd.rd, D.flat, ↓mCons, ↓mCall, ↓mTup, ↓mLst, ↓mFrzs, dBool, dadd, dsub, dgt, dMax2, dMin2, ↓mSet, ↓mSetN, ↓mSetIx, mKindN, isKindN, mWr, beq_self_eq_true, Sl.cell, Sl.put, ↓mFrzM, argDs, argD, apartB, putMu, ↓mCallF, ↓mCallN, Hd.isNm, nmu, List.cons_append, List.nil_append, List.length_cons, List.length_nil, List.replicate_succ, List.replicate_zero, List.getElem?_cons_zero, List.getElem?_cons_succ, List.set_cons_zero, List.set_cons_succ, List.any_nil, List.any_cons, Nat.reduceAdd, Nat.reduceSub, Nat.reduceBEq, if_true, if_false, Bool.false_eq_true, ↓reduceIte, Option.bind_some, Option.map_some, Bool.or_self, Bool.false_or, Bool.or_false, Bool.true_or, Bool.or_true, List.contains_nil, List.contains_cons, Bool.and_self, Bool.not_false, Bool.not_true, Bool.true_and, Bool.and_true, Bool.false_and, decide_true, decide_false, so_flat, e1, e2, e3, e4, e5, lit3, lit4, ck, hc, lit0, de, ne]
  · have em : (found.filter fun r' => decide (r'.key = (k, l, r))).isEmpty = true := by
      rw [List.isEmpty_iff, List.filter_eq_nil_iff]
      intro r' h1 h2
      exact m (List.mem_map.mpr ⟨r', h1, of_decide_eq_true h2⟩)
    have ap : fAppend (.lst (found.map Row.d)) [(Row.mk k l r n).d] = some (.non, .lst ((found ++ [Row.mk k l r n]).map Row.d)) := by
      simp only [fAppend]
      rw [if_pos (by simp; omega)]
      simp
    refine ⟨s5, found ++ [Row.mk k l r n], .im (kd (k, l, r)), .im (.int n), ?_, .inr ⟨_, ⟨kin, ⟨l0, by show l ≤ v; omega⟩, ⟨r0, by show r ≤ v; omega⟩, ⟨n0, n1⟩⟩, rfl, m⟩⟩
    unfold b_x_law_lines_3
    simp (config := { decide := false }) only [↓runDef, gOf, slotOf, endMs, ↓seqE, ↓bindE, bindO_ok, bindO_ex, bindO_none, seqO_nx, seqO_rt, seqO_rn, seqO_bk, seqO_ct, seqO_ex, seqO_none, ↓retE, ↓failE, ↓ifE, ↓andE, ↓andK_t, ↓andK_f, ↓orE, ↓orK_t, ↓orK_f, ↓andBE, ↓andBK_t, ↓andBK_f, ↓orBE, ↓orBK_t, ↓orBK_f, ↓chE, ↓chK_t, ↓chK_f, ifO_t, ifO_f, ↓mVa, ↓mFz, ↓mNm, ↓mFrz, ↓mOp2, ↓mOp1, ↓f2E, ↓f1E, ↓fsE, ansO_some, ansO_none, rdAll, Hd.rd, D.flat, ↓mCons, ↓mCall, ↓mTup, ↓mLst, ↓mFrzs, dBool, dadd, dsub, dgt, dMax2, dMin2, ↓mSet, ↓mSetN, ↓mSetIx, mKindN, isKindN, mWr, beq_self_eq_true, Sl.cell, Sl.put, ↓mFrzM, argDs, argD, apartB, putMu, ↓mCallF, ↓mCallN, Hd.isNm, nmu, List.cons_append, List.nil_append, List.length_cons, List.length_nil, List.replicate_succ, List.replicate_zero, List.getElem?_cons_zero, List.getElem?_cons_succ, List.set_cons_zero, List.set_cons_succ, List.any_nil, List.any_cons, Nat.reduceAdd, Nat.reduceSub, Nat.reduceBEq, if_true, if_false, Bool.false_eq_true, ↓reduceIte, Option.bind_some, Option.map_some, Bool.or_self, Bool.false_or, Bool.or_false, Bool.true_or, Bool.or_true, List.contains_nil, List.contains_cons, Bool.and_self, Bool.not_false, Bool.not_true, Bool.true_and, Bool.and_true, Bool.false_and, decide_true, decide_false, so_flat, e1, e2, e3, e4, e5, lit3, lit4, lit1, ck, hc, lit0, de, em, mWm, add_row, ap]
theorem lines_okB (s : So) (most v o : Int) (hm : 0 ≤ most ∧ most ≤ 12) (hv : 0 ≤ v ∧ v ≤ 99) (ho : 1 ≤ o ∧ o ≤ 10000) :
    ∃ (s' : So) (rs : List Row), (rs.map Row.key).Nodup ∧ (∀ r ∈ rs, Bnd v o r) ∧ (rs.length : Int) ≤ most ∧ f_x_law_lines [so s, .int most, .int v, .int o] = some (.ret (.lst (rs.map Row.d)) [so s']) := by
  obtain ⟨many, s1, e1, m0, m1⟩ := draw1 s (most + 1) (by omega) (by omega)
  obtain ⟨k', hk', s2, e2⟩ := choose_l (xs := klists.map fun l => D.lst (l.map .str)) s1 (by simp [klists]) (by simp [klists])
  obtain ⟨ks, hks, rfl⟩ := List.mem_map.mp hk'
  obtain ⟨k0, k3, kk⟩ := klists_ok ks hks
  have hi : i_x_law_lines_2 [.mb (so s2), .im (.int most), .im (.int v), .im (.int o), .ow (.lst []), .im (.int many), .im (.lst (ks.map .str)), .un, .un, .un, .un] = some (.ok (rngD 0 many.toNat) [.mb (so s2), .im (.int most), .im (.int v), .im (.int o), .ow (.lst []), .im (.int many), .im (.lst (ks.map .str)), .un, .un, .un, .un]) := by
    have hr : rng1 [.int many] = some (rngD 0 many.toNat) := by
      simp only [rng1]
      rw [if_pos (by omega)]
    unfold i_x_law_lines_2 mSrc
    simp (config := { decide := false }) only [↓runDef, gOf, slotOf, endMs, ↓seqE, ↓bindE, bindO_ok, bindO_ex, bindO_none, seqO_nx, seqO_rt, seqO_rn, seqO_bk, seqO_ct, seqO_ex, seqO_none, ↓retE, ↓failE, ↓ifE, ↓andE, ↓andK_t, ↓andK_f, ↓orE, ↓orK_t, ↓orK_f, ↓andBE, ↓andBK_t, ↓andBK_f, ↓orBE, ↓orBK_t, ↓orBK_f, ↓chE, ↓chK_t, ↓chK_f, ifO_t, ifO_f, ↓mVa, ↓mFz, ↓mNm, ↓mFrz, ↓mOp2, ↓mOp1, ↓f2E, ↓f1E, ↓fsE, ansO_some, ansO_none, rdAll, Hd.rd, D.flat, ↓mCons, ↓mCall, ↓mTup, ↓mLst, ↓mFrzs, dBool, dadd, dsub, dgt, dMax2, dMin2, ↓mSet, ↓mSetN, ↓mSetIx, mKindN, isKindN, mWr, beq_self_eq_true, Sl.cell, Sl.put, ↓mFrzM, argDs, argD, apartB, putMu, ↓mCallF, ↓mCallN, Hd.isNm, nmu, List.cons_append, List.nil_append, List.length_cons, List.length_nil, List.replicate_succ, List.replicate_zero, List.getElem?_cons_zero, List.getElem?_cons_succ, List.set_cons_zero, List.set_cons_succ, List.any_nil, List.any_cons, Nat.reduceAdd, Nat.reduceSub, Nat.reduceBEq, if_true, if_false, Bool.false_eq_true, ↓reduceIte, Option.bind_some, Option.map_some, Bool.or_self, Bool.false_or, Bool.or_false, Bool.true_or, Bool.or_true, List.contains_nil, List.contains_cons, Bool.and_self, Bool.not_false, Bool.not_true, Bool.true_and, Bool.and_true, Bool.false_and, decide_true, decide_false, hr]
  obtain ⟨g', h1, t, rs, z7, z8, z9, h2, h3, h4, h5, rfl⟩ := forL_run (T := tgNm 7) (body := b_x_law_lines_3) (fun r' g => ∃ (t : So) (rs : List Row) (z7 z8 z9 : Sl), r'.length + rs.length ≤ many.toNat ∧ (∀ r ∈ rs, Bnd v o r) ∧ (rs.map Row.key).Nodup ∧ True ∧
      g = [.mb (so t), .im (.int most), .im (.int v), .im (.int o), .ow (.lst (rs.map Row.d)), .im (.int many), .im (.lst (ks.map .str)), z7, z8, z9, .un]) (ds := rngD 0 many.toNat)
    (g := [.mb (so s2), .im (.int most), .im (.int v), .im (.int o), .ow (.lst []), .im (.int many), .im (.lst (ks.map .str)), .un, .un, .un, .un])
    ⟨s2, [], _, _, _, by simp [rngD], (fun r hr => nomatch hr), List.nodup_nil, trivial, rfl⟩ fun d r' g ⟨t, rs, z7, z8, z9, h2, h3, h4, h5, eg⟩ => by
      subst eg
      simp only [List.length_cons] at h2
      obtain ⟨s', rs', y8, y9, e, c⟩ := lines_stepB (s := t) (most := most) (many := many) (ks := ks) (found := rs) (s7 := .im d) (s8 := z8) (s9 := z9) hv ho k0 k3 kk (fun r hr => (h3 r hr).kk) (by omega)
      refine ⟨_, _, rfl, e, s', rs', _, _, _, ?_, ?_, ?_, trivial, rfl⟩
      · rcases c with rfl | ⟨r, _, rfl, _⟩
        · omega
        · simp only [List.length_append, List.length_cons, List.length_nil]; omega
      · rcases c with rfl | ⟨r, ok, rfl, _⟩
        · exact h3
        · intro u hu
          rcases List.mem_append.mp hu with hu | hu
          · exact h3 u hu
          · rw [List.mem_singleton.mp hu]; exact ok
      · rcases c with rfl | ⟨r, ok, rfl, nm⟩
        · exact h4
        · rw [List.map_append, List.map_cons, List.map_nil, List.nodup_append]
          exact ⟨h4, List.nodup_cons.mpr ⟨(fun z => nomatch z), List.nodup_nil⟩, fun a ha b hb z => nm (by rw [List.mem_singleton.mp hb] at z; rw [← z]; exact ha)⟩
  have hfor : mFor none i_x_law_lines_2 (tgNm 7) b_x_law_lines_3 [.mb (so s2), .im (.int most), .im (.int v), .im (.int o), .ow (.lst []), .im (.int many), .im (.lst (ks.map .str)), .un, .un, .un, .un] = some (.ok .nx [.mb (so t), .im (.int most), .im (.int v), .im (.int o), .ow (.lst (rs.map Row.d)), .im (.int many), .im (.lst (ks.map .str)), z7, z8, z9, .un]) := by
    rw [for_none hi, back_none, h1]
  have h2' : rs.length ≤ many.toNat := by simpa using h2
  refine ⟨t, rs, h4, h3, by omega, ?_⟩
  have e2 : f_x_law_choose [so s1, .lst [.lst [.str "A"], .lst [.str "A", .str "B"], .lst [.str "A", .str "B", .str "C"], .lst [.str "B", .str "C"]]] = some (.ret (.lst (ks.map .str)) [so s2]) := e2
  unfold f_x_law_lines m_x_law_lines mParN
  simp (config := { decide := false }) only [↓runDef, gOf, slotOf, endMs, ↓seqE, ↓bindE, bindO_ok, bindO_ex, bindO_none, seqO_nx, seqO_rt, seqO_rn, seqO_bk, seqO_ct, seqO_ex, seqO_none, ↓retE, ↓failE, ↓ifE, ↓andE, ↓andK_t, ↓andK_f, ↓orE, ↓orK_t, ↓orK_f, ↓andBE, ↓andBK_t, ↓andBK_f, ↓orBE, ↓orBK_t, ↓orBK_f, ↓chE, ↓chK_t, ↓chK_f, ifO_t, ifO_f, ↓mVa, ↓mFz, ↓mNm, ↓mFrz, ↓mOp2, ↓mOp1, ↓f2E, ↓f1E, ↓fsE, ansO_some, ansO_none, rdAll, Hd.rd, D.flat, ↓mCons, ↓mCall, ↓mTup, ↓mLst, ↓mFrzs, dBool, dadd, dsub, dgt, dMax2, dMin2, ↓mSet, ↓mSetN, ↓mSetIx, mKindN, isKindN, mWr, beq_self_eq_true, Sl.cell, Sl.put, ↓mFrzM, argDs, argD, apartB, putMu, ↓mCallF, ↓mCallN, Hd.isNm, nmu, List.cons_append, List.nil_append, List.length_cons, List.length_nil, List.replicate_succ, List.replicate_zero, List.getElem?_cons_zero, List.getElem?_cons_succ, List.set_cons_zero, List.set_cons_succ, List.any_nil, List.any_cons, Nat.reduceAdd, Nat.reduceSub, Nat.reduceBEq, if_true, if_false, Bool.false_eq_true, ↓reduceIte, Option.bind_some, Option.map_some, Bool.or_self, Bool.false_or, Bool.or_false, Bool.true_or, Bool.or_true, List.contains_nil, List.contains_cons, Bool.and_self, Bool.not_false, Bool.not_true, Bool.true_and, Bool.and_true, Bool.false_and, decide_true, decide_false, so_flat, lit0, lit1, lit2, lit3, lit4, e1, e2, hfor]

theorem drawn_n (s : So) : ∃ s' a, T3 a ∧ f_x_law_drawn [so s] = some (.ret (tb a) [so s']) := by
  obtain ⟨v', hv', s1, e1⟩ := choose_l (xs := [.int 1, .int 2, .int 2, .int 9]) s (by simp) (by simp)
  obtain ⟨v, rfl, v0, v1⟩ : ∃ v : Int, v' = .int v ∧ 0 ≤ v ∧ v ≤ 9 := by
    simp only [List.mem_cons, List.not_mem_nil, or_false] at hv'
    rcases hv' with rfl | rfl | rfl | rfl <;> exact ⟨_, rfl, by omega, by omega⟩
  obtain ⟨s2, rs, nd, bd, hl, e2⟩ := lines_okB s1 3 v 4 (by decide) (by omega) (by decide)
  have t : Tn 3 9 4 rs := ⟨by omega, fun r hr => (bd r hr).kk, fun r hr => by have := (bd r hr).bl; omega, fun r hr => by have := (bd r hr).br; omega, fun r hr => by have := (bd r hr).bo; omega, nd⟩
  have g := t.good (by decide) (by decide) (by decide)
  have lt := ltext_ok g
  have tr := tread_ok g.srt (srt_srt rs)
  refine ⟨s2, srt rs, tv_srt t, ?_⟩
  unfold f_x_law_drawn m_x_law_drawn
  generalize tb (srt rs) = T at *
  generalize f_x_law_lines = f1 at *
  generalize f_x_law_choose = f2 at *
  generalize f_x_law_text = f3 at *
  generalize f_Table_read = f4 at *
  simp (config := { decide := false }) only [↓runDef, gOf, slotOf, endMs, ↓seqE, ↓bindE, bindO_ok, bindO_ex, bindO_none, seqO_nx, seqO_rt, seqO_rn, seqO_bk, seqO_ct, seqO_ex, seqO_none, ↓retE, ↓failE, ↓ifE, ↓andE, ↓andK_t, ↓andK_f, ↓orE, ↓orK_t, ↓orK_f, ↓andBE, ↓andBK_t, ↓andBK_f, ↓orBE, ↓orBK_t, ↓orBK_f, ↓chE, ↓chK_t, ↓chK_f, ifO_t, ifO_f, ↓mVa, ↓mFz, ↓mNm, ↓mFrz, ↓mOp2, ↓mOp1, ↓f2E, ↓f1E, ↓fsE, ansO_some, ansO_none, rdAll, Hd.rd, D.flat, ↓mCons, ↓mCall, ↓mTup, ↓mLst, ↓mFrzs, dBool, dadd, dsub, dgt, dMax2, dMin2, ↓mSet, ↓mSetN, ↓mSetIx, mKindN, isKindN, mWr, beq_self_eq_true, Sl.cell, Sl.put, ↓mFrzM, argDs, argD, apartB, putMu, ↓mCallF, ↓mCallN, Hd.isNm, nmu, List.cons_append, List.nil_append, List.length_cons, List.length_nil, List.replicate_succ, List.replicate_zero, List.getElem?_cons_zero, List.getElem?_cons_succ, List.set_cons_zero, List.set_cons_succ, List.any_nil, List.any_cons, Nat.reduceAdd, Nat.reduceSub, Nat.reduceBEq, if_true, if_false, Bool.false_eq_true, ↓reduceIte, Option.bind_some, Option.map_some, Bool.or_self, Bool.false_or, Bool.or_false, Bool.true_or, Bool.or_true, List.contains_nil, List.contains_cons, Bool.and_self, Bool.not_false, Bool.not_true, Bool.true_and, Bool.and_true, Bool.false_and, decide_true, decide_false, so_flat, e1, e2, lt, tr, lit4]
theorem right_n {a b c : List Row} {k : Int} (ta : T3 a) (t2 : T3 b) (tc : T3 c) (k0 : 1 ≤ k) (k5 : k ≤ 5) : f_x_law_are_right [tb a, tb b, tb c, .int k] = some (.ret (.bl true) []) := by
  have h9 : ∀ {n : Nat} {v o : Int} {x : List Row}, Tv n v o x → ∀ r ∈ x, r.k ∈ kinds := fun t => t.t.kk
  obtain ⟨x1, y1, z1, a1⟩ := add_v ta t2 (by decide) (by decide) (by decide) (by decide) (by decide)
  obtain ⟨x2, y2, z2, a2⟩ := add_v t2 ta (by decide) (by decide) (by decide) (by decide) (by decide)
  have x12 : x1 = x2 := y1.uniq y2 fun k => by rw [z1, z2, Int.add_comm]
  obtain ⟨x3, y3, z3, a3⟩ := add_v y1 tc (by decide) (by decide) (by decide) (by decide) (by decide)
  obtain ⟨x4, y4, z4, a4⟩ := add_v t2 tc (by decide) (by decide) (by decide) (by decide) (by decide)
  obtain ⟨x5, y5, z5, a5⟩ := add_v ta y4 (by decide) (by decide) (by decide) (by decide) (by decide)
  have x35 : x3 = x5 := y3.uniq y5 fun k => by rw [z3, z1, z5, z4, Int.add_assoc]
  subst x12
  subst x35
  obtain ⟨o1, p1⟩ := or_v ta t2 (by decide) (by decide) (by decide) (by decide) (by decide)
  obtain ⟨o2, p2⟩ := or_v o1 tc (by decide) (by decide) (by decide) (by decide) (by decide)
  obtain ⟨o3, p3⟩ := or_v t2 tc (by decide) (by decide) (by decide) (by decide) (by decide)
  obtain ⟨o4, p4⟩ := or_v ta o3 (by decide) (by decide) (by decide) (by decide) (by decide)
  rw [← or_assoc] at p4
  obtain ⟨o5, p5⟩ := or_v (tv_nil (n := 0) (v := 9) (o := 4)) ta (by decide) (by decide) (by decide) (by decide) (by decide)
  obtain ⟨o6, p6⟩ := or_v ta (tv_nil (n := 0) (v := 9) (o := 4)) (by decide) (by decide) (by decide) (by decide) (by decide)
  rw [nil_side, ta.s] at p5
  rw [side_nil, ta.s] at p6
  obtain ⟨s1, s2⟩ := scaled_v ta k0 k5
  unfold f_x_law_are_right m_x_law_are_right
  obtain ⟨d1, m1, w1⟩ := told_of (e1_pt (g := imO [.im (tb a), .im (tb b), .im (tb c), .im (.int k), .im (tb (srt base0)), .un, .un, .un, .un]) ta t2 tc rfl rfl rfl)
  obtain ⟨d2, m2, w2⟩ := told_of (e2_pt (g := imO [.im (tb a), .im (tb b), .im (tb c), .im (.int k), .im (tb (srt base0)), .im d1, .un, .un, .un]) ta t2 tc rfl rfl rfl)
  obtain ⟨d3, m3, w3⟩ := told_of (e3_pt (g := imO [.im (tb a), .im (tb b), .im (tb c), .im (.int k), .im (tb (srt base0)), .im d1, .im d2, .un, .un]) ta t2 tc rfl rfl rfl)
  obtain ⟨d4, m4, w4⟩ := told_of (e4_pt (g := imO [.im (tb a), .im (tb b), .im (tb c), .im (.int k), .im (tb (srt base0)), .im d3, .im d2, .un, .un]) ta t2 tc rfl rfl rfl)
  obtain ⟨z8, fo⟩ := six_for (s1 := .im (tb b)) (s2 := .im (tb c)) (s4 := .im (tb (srt base0))) (s5 := .im d3) (s6 := .im d4) ta k0 k5
  refine right_gen (A := tb a) (B := tb b) (C := tb c) (K := .int k) (Bs := tb (srt base0)) (E := tb []) (F7 := tb (srt (a.map (sc k)))) (z8 := z8) (d1 := d1) (d2 := d2) (d3 := d3) (d4 := d4) ?_ ?_ ?_ ?_ ?_ ?_ ?_ m1 m2 (agree_n w1 w2) m3 m4 (agree_n w3 w4) mk0 fo ?_ ?_ ?_ ?_
  · exact mkA_ok (hs := [.va (Row.d ⟨"A", 0, 0, 1⟩), .va (Row.d ⟨"B", 0, 0, 1⟩), .va (Row.d ⟨"C", 0, 0, 1⟩)]) (base_T.good (by decide) (by decide) (by decide)) rfl rfl
  · refine ine_self (mt_va ?_) (mt_nm rfl) ta.t.kk
    have e := of_rows_n ta
    generalize f_x_law_of_rows = f at *
    generalize tb a = A at *
    simp (config := { decide := false }) only [↓runDef, gOf, slotOf, endMs, ↓seqE, ↓bindE, bindO_ok, bindO_ex, bindO_none, seqO_nx, seqO_rt, seqO_rn, seqO_bk, seqO_ct, seqO_ex, seqO_none, ↓retE, ↓failE, ↓ifE, ↓andE, ↓andK_t, ↓andK_f, ↓orE, ↓orK_t, ↓orK_f, ↓andBE, ↓andBK_t, ↓andBK_f, ↓orBE, ↓orBK_t, ↓orBK_f, ↓chE, ↓chK_t, ↓chK_f, ifO_t, ifO_f, ↓mVa, ↓mFz, ↓mNm, ↓mFrz, ↓mOp2, ↓mOp1, ↓f2E, ↓f1E, ↓fsE, ansO_some, ansO_none, rdAll, Hd.rd, D.flat, ↓mCons, ↓mCall, ↓mTup, ↓mLst, ↓mFrzs, dBool, dadd, dsub, dgt, dMax2, dMin2, ↓mSet, ↓mSetN, ↓mSetIx, mKindN, isKindN, mWr, beq_self_eq_true, Sl.cell, Sl.put, ↓mFrzM, argDs, argD, apartB, putMu, ↓mCallF, ↓mCallN, Hd.isNm, nmu, List.cons_append, List.nil_append, List.length_cons, List.length_nil, List.replicate_succ, List.replicate_zero, List.getElem?_cons_zero, List.getElem?_cons_succ, List.set_cons_zero, List.set_cons_succ, List.any_nil, List.any_cons, Nat.reduceAdd, Nat.reduceSub, Nat.reduceBEq, if_true, if_false, Bool.false_eq_true, ↓reduceIte, Option.bind_some, Option.map_some, Bool.or_self, Bool.false_or, Bool.or_false, Bool.true_or, Bool.or_true, List.contains_nil, List.contains_cons, Bool.and_self, Bool.not_false, Bool.not_true, Bool.true_and, Bool.and_true, Bool.false_and, decide_true, decide_false, e]
  · exact ine_self (mt_va (op_ret (mt_nm rfl) (mt_nm rfl) a1)) (mt_va (op_ret (mt_nm rfl) (mt_nm rfl) a2)) y1.t.kk
  · exact ine_self (mt_va (op_ret (mt_va (op_ret (mt_nm rfl) (mt_nm rfl) a1)) (mt_nm rfl) a3)) (mt_va (op_ret (mt_nm rfl) (mt_va (op_ret (mt_nm rfl) (mt_nm rfl) a4)) a5)) y3.t.kk
  · exact ine_self (mt_va (op_ret (mt_va (op_ret (mt_nm rfl) (mt_nm rfl) p1)) (mt_nm rfl) p2)) (mt_va (op_ret (mt_nm rfl) (mt_va (op_ret (mt_nm rfl) (mt_nm rfl) p3)) p4)) o2.t.kk
  · exact ine_self (mt_va (op_ret (mt_va mk0) (mt_nm rfl) p5)) (mt_nm rfl) ta.t.kk
  · exact ine_self (mt_va (op_ret (mt_nm rfl) (mt_va mk0) p6)) (mt_nm rfl) ta.t.kk
  · exact op_ret (mt_va (op_ret (mt_nm rfl) (mt_nm rfl) (base_mul ta))) (mt_nm rfl) (teq_n ta.t.kk)
  · exact op_ret (mt_va (op_ret (mt_nm rfl) (mt_va mk0) (add_nil ta))) (mt_nm rfl) (teq_n ta.t.kk)
  · refine op_ret (mt_nm rfl) (mt_va ?_) (teq_n s1.t.kk)
    have cl := tb_clsN (rs := a) (g := [.im (tb a), .im (tb b), .im (tb c), .im (.int k), .im (tb (srt base0)), .im d3, .im d4, .im (tb (srt (a.map (sc k)))), z8]) (i := 0) rfl
    generalize f_Table_scaled = f at *
    generalize tb (srt (a.map (sc k))) = S at *
    generalize tb (srt base0) = S2 at *
    generalize tb a = A at *
    generalize tb b = B at *
    generalize tb c = C at *
    simp (config := { decide := false }) only [↓runDef, gOf, slotOf, endMs, ↓seqE, ↓bindE, bindO_ok, bindO_ex, bindO_none, seqO_nx, seqO_rt, seqO_rn, seqO_bk, seqO_ct, seqO_ex, seqO_none, ↓retE, ↓failE, ↓ifE, ↓andE, ↓andK_t, ↓andK_f, ↓orE, ↓orK_t, ↓orK_f, ↓andBE, ↓andBK_t, ↓andBK_f, ↓orBE, ↓orBK_t, ↓orBK_f, ↓chE, ↓chK_t, ↓chK_f, ifO_t, ifO_f, ↓mVa, ↓mFz, ↓mNm, ↓mFrz, ↓mOp2, ↓mOp1, ↓f2E, ↓f1E, ↓fsE, ansO_some, ansO_none, rdAll, Hd.rd, D.flat, ↓mCons, ↓mCall, ↓mTup, ↓mLst, ↓mFrzs, dBool, dadd, dsub, dgt, dMax2, dMin2, ↓mSet, ↓mSetN, ↓mSetIx, mKindN, isKindN, mWr, beq_self_eq_true, Sl.cell, Sl.put, ↓mFrzM, argDs, argD, apartB, putMu, ↓mCallF, ↓mCallN, Hd.isNm, nmu, List.cons_append, List.nil_append, List.length_cons, List.length_nil, List.replicate_succ, List.replicate_zero, List.getElem?_cons_zero, List.getElem?_cons_succ, List.set_cons_zero, List.set_cons_succ, List.any_nil, List.any_cons, Nat.reduceAdd, Nat.reduceSub, Nat.reduceBEq, if_true, if_false, Bool.false_eq_true, ↓reduceIte, Option.bind_some, Option.map_some, Bool.or_self, Bool.false_or, Bool.or_false, Bool.true_or, Bool.or_true, List.contains_nil, List.contains_cons, Bool.and_self, Bool.not_false, Bool.not_true, Bool.true_and, Bool.and_true, Bool.false_and, decide_true, decide_false, mMth, cl, s2]
  · exact op_ret (mt_va (op_ret (mt_va mk0) (mt_nm rfl) (nil_mul ta))) (mt_va mk0) (teq_n (fun r h => (nomatch h)))
end Cq.K08

set_option Elab.async false
set_option linter.all false
set_option maxRecDepth 100000
set_option maxHeartbeats 1000000
namespace Cq.K08
open PySem PyProof.Rows L2 Cq Cq.Sh
theorem lap_ok {s0 s1 : Sl} (s : So) (s3 : Sl) (rest : List Sl) (hr : rest.length = 3) : ∃ s' rest', rest'.length = 3 ∧ b_law_2 (s0 :: s1 :: .ow (so s) :: s3 :: rest) = some (.ok .nx (s0 :: s1 :: .ow (so s') :: s3 :: rest')) := by
  obtain ⟨s4, s5, s6, rfl⟩ : ∃ s4 s5 s6, rest = [s4, s5, s6] := by
    match rest, hr with
    | [s4, s5, s6], _ => exact ⟨s4, s5, s6, rfl⟩
  obtain ⟨t1, a, ta, e1⟩ := drawn_n s
  obtain ⟨t2, b, tb', e2⟩ := drawn_n t1
  obtain ⟨t3, c, tc, e3⟩ := drawn_n t2
  obtain ⟨d, t4, e4, d0, d1⟩ := draw1 t3 5 (by decide) (by decide)
  have r := right_n (k := 1 + d) ta tb' tc (by omega) (by omega)
  refine ⟨t4, [.im (tb a), .im (tb b), .im (tb c)], rfl, ?_⟩
  unfold b_law_2
  generalize f_x_law_drawn = f1 at *
  generalize f_x_law_draw = f2 at *
  generalize f_x_law_are_right = f3 at *
  generalize tb a = A at *
  generalize tb b = B at *
  generalize tb c = C at *
  simp (config := { decide := false }) only [↓runDef, gOf, slotOf, endMs, ↓seqE, ↓bindE, bindO_ok, bindO_ex, bindO_none, seqO_nx, seqO_rt, seqO_rn, seqO_bk, seqO_ct, seqO_ex, seqO_none, ↓retE, ↓failE, ↓ifE, ↓andE, ↓andK_t, ↓andK_f, ↓orE, ↓orK_t, ↓orK_f, ↓andBE, ↓andBK_t, ↓andBK_f, ↓orBE, ↓orBK_t, ↓orBK_f, ↓chE, ↓chK_t, ↓chK_f, ifO_t, ifO_f, ↓mVa, ↓mFz, ↓mNm, ↓mFrz, ↓mOp2, ↓mOp1, ↓f2E, ↓f1E, ↓fsE, ansO_some, ansO_none, rdAll, Hd.rd, D.flat, ↓mCons, ↓mCall, ↓mTup, ↓mLst, ↓mFrzs, dBool, dadd, dsub, dgt, dMax2, dMin2, ↓mSet, ↓mSetN, ↓mSetIx, mKindN, isKindN, mWr, beq_self_eq_true, Sl.cell, Sl.put, ↓mFrzM, argDs, argD, apartB, putMu, ↓mCallF, ↓mCallN, Hd.isNm, nmu, List.cons_append, List.nil_append, List.length_cons, List.length_nil, List.replicate_succ, List.replicate_zero, List.getElem?_cons_zero, List.getElem?_cons_succ, List.set_cons_zero, List.set_cons_succ, List.any_nil, List.any_cons, Nat.reduceAdd, Nat.reduceSub, Nat.reduceBEq, if_true, if_false, Bool.false_eq_true, ↓reduceIte, Option.bind_some, Option.map_some, Bool.or_self, Bool.false_or, Bool.or_false, Bool.true_or, Bool.or_true, List.contains_nil, List.contains_cons, Bool.and_self, Bool.not_false, Bool.not_true, Bool.true_and, Bool.and_true, Bool.false_and, decide_true, decide_false, so_flat, mPar, e1, e2, e3, e4, r]
theorem law_ok (ns : List Int) (hl : ns.length ≤ 63) : f_law [.scr ns] = some (.ret (.bl true) []) := by
  obtain ⟨rest', hr, hf⟩ := law_gen (b4 := b_law_2) (b6 := b_law_4) (i3 := i_law_1) (i5 := i_law_3) (n := 6) (m := 3) (cells := 4) (by decide) ns (fun g => i3_gen (v := 6) (by decide) (by decide) g) (fun g hg => i5_gen hl (cells := 4) (by decide) g hg) rfl fun s1 s s3 rest hr => lap_ok s s3 rest hr
  have hf : mFor none i_law_3 (tgNm 1) b_law_4 [.im (.scr ns), .un, .un, .un, .un, .un, .un] = some (.ok .nx (.im (.scr ns) :: rest')) := hf
  unfold f_law m_law
  simp (config := { decide := false }) only [↓runDef, gOf, slotOf, endMs, ↓seqE, ↓bindE, bindO_ok, bindO_ex, bindO_none, seqO_nx, seqO_rt, seqO_rn, seqO_bk, seqO_ct, seqO_ex, seqO_none, ↓retE, ↓failE, ↓ifE, ↓andE, ↓andK_t, ↓andK_f, ↓orE, ↓orK_t, ↓orK_f, ↓andBE, ↓andBK_t, ↓andBK_f, ↓orBE, ↓orBK_t, ↓orBK_f, ↓chE, ↓chK_t, ↓chK_f, ifO_t, ifO_f, ↓mVa, ↓mFz, ↓mNm, ↓mFrz, ↓mOp2, ↓mOp1, ↓f2E, ↓f1E, ↓fsE, ansO_some, ansO_none, rdAll, Hd.rd, D.flat, ↓mCons, ↓mCall, ↓mTup, ↓mLst, ↓mFrzs, dBool, dadd, dsub, dgt, dMax2, dMin2, ↓mSet, ↓mSetN, ↓mSetIx, mKindN, isKindN, mWr, beq_self_eq_true, Sl.cell, Sl.put, ↓mFrzM, argDs, argD, apartB, putMu, ↓mCallF, ↓mCallN, Hd.isNm, nmu, List.cons_append, List.nil_append, List.length_cons, List.length_nil, List.replicate_succ, List.replicate_zero, List.getElem?_cons_zero, List.getElem?_cons_succ, List.set_cons_zero, List.set_cons_succ, List.any_nil, List.any_cons, Nat.reduceAdd, Nat.reduceSub, Nat.reduceBEq, if_true, if_false, Bool.false_eq_true, ↓reduceIte, Option.bind_some, Option.map_some, Bool.or_self, Bool.false_or, Bool.or_false, Bool.true_or, Bool.or_true, List.contains_nil, List.contains_cons, Bool.and_self, Bool.not_false, Bool.not_true, Bool.true_and, Bool.and_true, Bool.false_and, decide_true, decide_false, mTry, hf]
end Cq.K08

set_option Elab.async false
set_option linter.all false
set_option maxRecDepth 100000
set_option maxHeartbeats 0
namespace Cq
open PySem PySem.Spec PyProof.Rows L2
def noTb (H : Hp) : Hp := fun x => match H x with | some (.tbl _) => none | o => o
theorem noTb_eq {H : Hp} {a : Addr} {o : HO} (h : H a = some o) (n : NB o) : noTb H a = some o := by
  unfold noTb; rw [h]
  cases o with
  | tbl ps => exact absurd rfl (n ps)
  | _ => rfl
theorem noTb_sub (H : Hp) : Sub (noTb H) H := fun a o e => by
  unfold noTb at e
  cases h : H a with
  | none => rw [h] at e; cases e
  | some u =>
    rw [h] at e
    cases u with
    | tbl ps => cases e
    | _ => exact e
theorem noTb_nt (H : Hp) : ∀ x ps, noTb H x ≠ some (.tbl ps) := fun x ps e => by
  unfold noTb at e
  cases h : H x with
  | none => rw [h] at e; cases e
  | some u =>
    rw [h] at e
    cases u with
    | tbl ps => cases e
    | _ => cases e
theorem noTb_seq {K : Frag} {H : Hp} {a : Addr} {xs : List V} (h : SqL K H a xs) : SqL K (noTb H) a xs := by
  rcases h with (h | ⟨o, h⟩) | h
  · exact .inl (.inl (noTb_eq h fun _ z => nomatch z))
  · exact .inl (.inr ⟨o, noTb_eq h fun _ z => nomatch z⟩)
  · exact .inr h
/-- the script alone -/
theorem sp_law {K : Frag} {f : Fn} {H : Hp} {a : Addr} {ns : List Int} (hs : SqL K H a (ns.map V.int)) (h : f [.scr ns] = some (.ret (.bl true) [])) (hT : ∀ P ∈ tT K, H P = some (.tbl #[])) : spF K [.im] f [.ref a] H (fun v _ => v = .bl true) fun _ _ _ => False := by
  refine ⟨noTb H, [.scr ns], rfl, rfl, ⟨noTb_sub H, rfl, fun i s e => ?_, fun i j d e a b x ij c1 => ?_, fun i d a e => ?_, ⟨fun p hp => by obtain ⟨P, hP, rfl⟩ := List.mem_map.mp hp; exact LamX.TabS.nil (hT P hP), noTb_nt H⟩⟩, ?_⟩
  · cases i with
    | zero => cases e; exact ⟨.ref a, rfl, .scr (noTb_seq hs)⟩
    | succ i => cases e
  · cases i with
    | zero => cases c1
    | succ i => cases c1
  · cases i with
    | zero => cases e
    | succ i => cases e
  · rw [h]
    exact fun v F' H' _ _ r => by cases r; rfl
theorem cx_none {P : Program} {w : World} {H : Hp} {s : Shared} {e : Value} {s' : Shared} (h : L2.CX P w [] H s (fun _ _ _ => False) e s') : False := by
  obtain ⟨_, _, _, _, _, _, _, _, _, _, _, _, z⟩ := h
  exact z
end Cq

set_option Elab.async false
set_option linter.all false
set_option maxRecDepth 100000
set_option maxHeartbeats 0
open PySem PySem.W PySem.Calls PyProof.Rows
theorem PySem.Challenge.cw_countalike_k08_whole_tables_put_together_holds : PySem.Challenge.rw_countalike_k08_whole_tables_put_together.Holds := by
  w_on; o_law
  refine HandSHeadRun.head_any (r := OpenLaw.row PySem.Challenge.rw_countalike_k08_whole_tables_put_together) (q := view (OpenLaw.row PySem.Challenge.rw_countalike_k08_whole_tables_put_together).prog [44]) (H := Cq.K08.hk) (ob := Cq.K08.ob) (M := 6000) (loose := Cq.K08.loose) (d := HandSHeadRun.topDef (OpenLaw.row PySem.Challenge.rw_countalike_k08_whole_tables_put_together).prog 44) (kwd := []) Cq.K08.ob_eq
    (by kernel_rfl) (fun s => by kernel_rfl) Cq.K08.run (by kernel_rfl) (by kernel_rfl) (by kernel_rfl) (by rfl) (by first | assumption | decide +kernel) (by decide +kernel) ⟨rfl, rfl, rfl, rfl, rfl, by decide +kernel⟩ ?hw ?hc
  case hw => w_witness2
  case hc =>
    refine L2.walk_ofL (l := PySem.Challenge.rw_countalike_k08_whole_tables_put_together) (n := 63) (k := 13) (CX := fun w => L2.CX (PySem.Challenge.rw_countalike_k08_whole_tables_put_together).prog w) rfl (by decide) (by kernel_rfl) ⟨rfl, by decide, by decide⟩ ?F (fun _ _ _ _ _ z => Cq.cx_none z)
    intro w mg fa h Y G hmg0
    obtain ⟨K, KX, c, tab⟩ := Cq.SaysL.frag Y
    have hmg : mg ("law" : PySem.Str) = some (.ref fa) := by
      have e : (HandSHeadRun.topDef (OpenLaw.row PySem.Challenge.rw_countalike_k08_whole_tables_put_together).prog 44).name = ("law" : PySem.Str) := by kernel_rfl
      rw [← e]
      exact hmg0
    obtain ⟨e1, ld, tb⟩ := Cq.K08.pre_of KX G c
    have e := hmg.symm.trans e1
    cases e
    have inT : ∀ p ∈ Cq.K08.lamXs.map (fun x => (Cq.codC K x, Cq.tabP K x)), ∃ x ∈ Cq.K08.lamXs, p = (Cq.codC K x, Cq.tabP K x) := fun p hp => by
      obtain ⟨x, hx, e⟩ := List.mem_map.mp hp
      exact ⟨x, hx, e.symm⟩
    refine ⟨K, Cq.K08.lamXs.map (fun x => (Cq.codC K x, Cq.tabP K x)), Cq.spF K [.im] Cq.K08.f_law, KX, fun p hp => ?_, fun p hp => ?_, fun p hp => ?_, fun H a ns hl hT hS => Cq.sp_law hS (Cq.K08.law_ok ns hl) fun P hP => ?_, fun base _ _ B => Cq.K08.ok_law (Cq.K08.gt_of KX G c fun x hx => B _ (List.mem_map.mpr ⟨x, hx, rfl⟩))⟩
    · obtain ⟨x, hx, rfl⟩ := inT p hp
      exact tab _ (by rw [tb]; exact List.mem_map.mpr ⟨x, hx, rfl⟩)
    · obtain ⟨x, hx, rfl⟩ := inT p hp
      exact (ld x hx).out
    · obtain ⟨x, hx, rfl⟩ := inT p hp
      exact (ld x hx).code KX
    · rw [tb] at hP
      obtain ⟨x, hx, rfl⟩ := List.mem_map.mp hP
      exact hT _ (List.mem_map.mpr ⟨x, hx, rfl⟩)
