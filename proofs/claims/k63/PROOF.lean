import PyProof.Rows.All
import Wide.All
import OpenK.AllK
import Wide.FinOn
import HandS.ForMost
import HandS.ForExc
import HandS.Defaults
import HandS.CallSlots
import HandS.TupAny
import HandS.Wide
import HandS.IsInst
import HandS.StrMore
import HandS.FStr
import HandS.Strs
import HandS.RaiseMore
import PyProof.ReprReads
import HandS.ExcIs
import HandS.ExcField
import HandS.NoneIn
import HandS.Zip
import HandS.ExcInit
import PyProof.ReprRoads
import HandS.ReplaceLit
import PyProof.StrBlock2
import HandS.Ends
import HandS.EndBits
import HandS.HeadEnd
import HandS.Head0
import HandS.Head1
import HandS.Head2
import HandS.HeadHook1
import HandS.HeadHook2
import KE.IntTextText
import KE.KIntText
import PyProof.ReprLen
import PySem.Challenge.RW_unknowncorners_k63_settings_written_and
set_option Elab.async false
set_option linter.all false
set_option maxRecDepth 100000
set_option autoImplicit false
set_option maxHeartbeats 4000000
namespace MD
open PySem PySem.Spec PyProof.Rows L2

/-! ### data -/
/-- a value of Python: tuples and lists by their items, a changeable object by its number in the store, another thing by its address -/
inductive D where
  | non | bl (b : Bool) | int (i : Int) | str (x : Str) | tup (xs : List D) | lst (xs : List D) | loc (n : Nat) | ob (a : Addr)
mutual
def D.beq : D → D → Bool
  | .non, .non => true
  | .bl a, .bl b => a == b
  | .int a, .int b => decide (a = b)
  | .str a, .str b => decide (a = b)
  | .tup a, .tup b => D.beqL a b
  | .lst a, .lst b => D.beqL a b
  | .loc a, .loc b => a == b
  | .ob a, .ob b => decide (a = b)
  | _, _ => false
def D.beqL : List D → List D → Bool
  | [], [] => true
  | x :: xs, y :: ys => D.beq x y && D.beqL xs ys
  | _, _ => false
end
mutual
theorem D.beq_ok : ∀ (a b : D), D.beq a b = true → a = b
  | .non, b, h => by cases b <;> first | rfl | (simp [D.beq] at h)
  | .bl x, b, h => by cases b <;> simp_all [D.beq]
  | .int x, b, h => by cases b <;> simp_all [D.beq]
  | .str x, b, h => by cases b <;> simp_all [D.beq]
  | .loc x, b, h => by cases b <;> simp_all [D.beq]
  | .ob x, b, h => by cases b <;> simp_all [D.beq]
  | .tup xs, b, h => by
    cases b with
    | tup ys => rw [D.beqL_ok xs ys (by simpa [D.beq] using h)]
    | _ => simp [D.beq] at h
  | .lst xs, b, h => by
    cases b with
    | lst ys => rw [D.beqL_ok xs ys (by simpa [D.beq] using h)]
    | _ => simp [D.beq] at h
theorem D.beqL_ok : ∀ (a b : List D), D.beqL a b = true → a = b
  | [], b, h => by cases b <;> first | rfl | (simp [D.beqL] at h)
  | x :: xs, b, h => by
    cases b with
    | nil => simp [D.beqL] at h
    | cons y ys =>
      have h' : D.beq x y = true ∧ D.beqL xs ys = true := by simpa [D.beqL] using h
      rw [D.beq_ok x y h'.1, D.beqL_ok xs ys h'.2]
end
mutual
theorem D.beq_self : ∀ (a : D), D.beq a a = true
  | .non => by simp [D.beq]
  | .bl x => by simp [D.beq]
  | .int x => by simp [D.beq]
  | .str x => by simp [D.beq]
  | .loc x => by simp [D.beq]
  | .ob x => by simp [D.beq]
  | .tup xs => by simpa [D.beq] using D.beqL_self xs
  | .lst xs => by simpa [D.beq] using D.beqL_self xs
theorem D.beqL_self : ∀ (a : List D), D.beqL a a = true
  | [] => by simp [D.beqL]
  | x :: xs => by simp [D.beqL, D.beq_self x, D.beqL_self xs]
end
instance : DecidableEq D := fun a b => if h : D.beq a b = true then .isTrue (D.beq_ok a b h) else .isFalse fun e => h (by rw [e]; exact D.beq_self b)

/-- an exception: its class, its own fields -/
structure Exn where
  cls : Addr
  fs : Option (List (Str × D))
deriving DecidableEq
/-- a changeable object, or a caught exception -/
inductive Cell where
  | gone
  | lst (xs : List D)
  | ins (C : Addr) (fs : List (Str × D))
  | exc (x : Exn)
deriving DecidableEq
abbrev Store := List Cell
abbrev Env := List (Option D)
inductive Res (α : Type) where
  | ok (a : α) (S : Store) | exc (x : Exn) (S : Store) | bad
def Res.bind {α β : Type} : Res α → (α → Store → Res β) → Res β
  | .ok a S, k => k a S
  | .exc x S, _ => .exc x S
  | .bad, _ => .bad
abbrev EM := Env → Store → Res D
abbrev AM := Env → Store → Res (List D)
abbrev BM := Env → Store → Res Bool
abbrev FM := List D → Store → Res D
inductive SR where
  | nx (ρ : Env) (S : Store) | rt (d : D) (S : Store) | bk (ρ : Env) (S : Store) | ct (ρ : Env) (S : Store) | exc (x : Exn) (ρ : Env) (S : Store) | bad
abbrev SM := Env → Store → SR

/-! ### how the heap bears it -/
/-- the numbered objects; those that no value may be (a list that is being made) -/
structure Ix where
  num : List (Option Addr)
  hid : List Addr
def Ix.has (ι : Ix) (a : Addr) : Prop := some a ∈ ι.num ∨ a ∈ ι.hid
def Ix.push (ι : Ix) (p : Addr) : Ix := ⟨ι.num ++ [some p], ι.hid⟩
def Ix.hide (ι : Ix) (p : Addr) : Ix := ⟨ι.num, p :: ι.hid⟩
/-- a list, a tuple that is no numbered object -/
def LstAt (H : Hp) (ι : Ix) (a : Addr) (vs : List V) : Prop := Rd H a (.lst vs) ∧ ¬ ι.has a
def TupAt (K : PySem.W.Frag) (H : Hp) (ι : Ix) (a : Addr) (vs : List V) : Prop :=
  (Rd H a (.tup vs) ∧ ¬ ι.has a) ∨ ∃ (o : Obj) (its : Array Value) (n : Nat), K.lookup a = some o ∧ o.cls = .type "tuple" ∧ o.data = .seq its n ∧ its.size ≤ sizeLine ∧ Vals vs its.toList
theorem LstAt.sq {K : PySem.W.Frag} {H : Hp} {ι : Ix} {a : Addr} {vs : List V} (h : LstAt H ι a vs) : SqL K H a vs := .inl h.1
theorem TupAt.sq {K : PySem.W.Frag} {H : Hp} {ι : Ix} {a : Addr} {vs : List V} (h : TupAt K H ι a vs) : SqT K H a vs := h.imp (·.1) id

mutual
inductive Den (K : PySem.W.Frag) (H : Hp) (ι : Ix) : V → D → Prop
  | non : Den K H ι .non .non
  | bl (b : Bool) : Den K H ι (.bl b) (.bl b)
  | int (i : Int) : Den K H ι (.int i) (.int i)
  | str (x : Str) : Den K H ι (.str x) (.str x)
  | tup {a : Addr} {vs : List V} {ds : List D} : TupAt K H ι a vs → DenL K H ι vs ds → Den K H ι (.ref a) (.tup ds)
  | lst {a : Addr} {vs : List V} {ds : List D} : LstAt H ι a vs → DenL K H ι vs ds → Den K H ι (.ref a) (.lst ds)
  | loc {a : Addr} {n : Nat} : ι.num[n]? = some (some a) → Den K H ι (.ref a) (.loc n)
  | ob (a : Addr) : Den K H ι (.ref a) (.ob a)
inductive DenL (K : PySem.W.Frag) (H : Hp) (ι : Ix) : List V → List D → Prop
  | nil : DenL K H ι [] []
  | cons {v : V} {vs : List V} {d : D} {ds : List D} : Den K H ι v d → DenL K H ι vs ds → DenL K H ι (v :: vs) (d :: ds)
end

/-- all that stood, and is no object of these, stands; numbered objects keep their numbers; new ones are new -/
structure Ext0 (H : Hp) (ι : Ix) (H' : Hp) (ι' : Ix) : Prop where
  keep : ∀ a o, H a = some o → ¬ ι.has a → H' a = some o
  pre : ∀ (n : Nat) (x : Option Addr), ι.num[n]? = some x → ι'.num[n]? = some x
  new : ∀ a, ι'.has a → ι.has a ∨ H a = none
structure Ext (H : Hp) (ι : Ix) (H' : Hp) (ι' : Ix) : Prop extends Ext0 H ι H' ι' where
  hid : ι'.hid = ι.hid
  keepH : ∀ a o, a ∈ ι.hid → H a = some o → some a ∉ ι.num → H' a = some o
  newN : ∀ a, some a ∈ ι'.num → some a ∈ ι.num ∨ H a = none
theorem Ext.refl (H : Hp) (ι : Ix) : Ext H ι H ι := ⟨⟨fun _ _ h _ => h, fun _ _ h => h, fun _ h => .inl h⟩, rfl, fun _ _ _ h _ => h, fun _ h => .inl h⟩
theorem Ext0.out {H H' : Hp} {ι ι' : Ix} (e : Ext0 H ι H' ι') {a : Addr} {o : HO} (h : H a = some o) (n : ¬ ι.has a) : ¬ ι'.has a := fun m => by
  rcases e.new a m with z | z
  · exact n z
  · rw [h] at z; cases z
theorem Ext0.trans {H H1 H2 : Hp} {ι ι1 ι2 : Ix} (a : Ext0 H ι H1 ι1) (b : Ext0 H1 ι1 H2 ι2) : Ext0 H ι H2 ι2 where
  keep := fun c o h n => b.keep c o (a.keep c o h n) (a.out h n)
  pre := fun n x h => b.pre n x (a.pre n x h)
  new := fun c m => by
    rcases b.new c m with z | z
    · exact a.new c z
    · cases q : H c with
      | none => exact .inr rfl
      | some o =>
        by_cases hc : ι.has c
        · exact .inl hc
        · rw [a.keep c o q hc] at z; cases z
/-- an object that is not numbered stands -/
theorem Ext.stay {H H' : Hp} {ι ι' : Ix} (e : Ext H ι H' ι') {a : Addr} {o : HO} (h : H a = some o) (n : some a ∉ ι.num) : H' a = some o := by
  by_cases hh : a ∈ ι.hid
  · exact e.keepH a o hh h n
  · exact e.keep a o h fun z => z.elim n hh
theorem Ext.trans {H H1 H2 : Hp} {ι ι1 ι2 : Ix} (a : Ext H ι H1 ι1) (b : Ext H1 ι1 H2 ι2) : Ext H ι H2 ι2 where
  toExt0 := a.toExt0.trans b.toExt0
  hid := b.hid.trans a.hid
  keepH := fun c o m h n => b.stay (a.stay h n) fun z => by
    rcases a.newN c z with z | z
    · exact n z
    · rw [h] at z; cases z
  newN := fun c m => by
    rcases b.newN c m with z | z
    · exact a.newN c z
    · cases q : H c with
      | none => exact .inr rfl
      | some o =>
        by_cases hc : some c ∈ ι.num
        · exact .inl hc
        · rw [a.stay q hc] at z; cases z

section
variable {K : PySem.W.Frag} {H H' : Hp} {ι ι' : Ix}
theorem Rd.ext {a : Addr} {u : HO} (e : Ext0 H ι H' ι') (h : Rd H a u) (n : ¬ ι.has a) : Rd H' a u ∧ ¬ ι'.has a := by
  rcases h with h | ⟨o, h⟩
  · exact ⟨.inl (e.keep _ _ h n), e.out h n⟩
  · exact ⟨.inr ⟨o, e.keep _ _ h n⟩, e.out h n⟩
theorem LstAt.ext0 {a : Addr} {vs : List V} (e : Ext0 H ι H' ι') (h : LstAt H ι a vs) : LstAt H' ι' a vs := Rd.ext e h.1 h.2
theorem TupAt.ext0 {a : Addr} {vs : List V} (e : Ext0 H ι H' ι') (h : TupAt K H ι a vs) : TupAt K H' ι' a vs := h.imp (fun h => Rd.ext e h.1 h.2) id
mutual
theorem Den.ext0 (e : Ext0 H ι H' ι') : ∀ (d : D) {v : V}, Den K H ι v d → Den K H' ι' v d
  | .non, _, h => by cases h; exact .non
  | .bl _, _, h => by cases h; exact .bl _
  | .int _, _, h => by cases h; exact .int _
  | .str _, _, h => by cases h; exact .str _
  | .loc _, _, h => by cases h with | loc h => exact .loc (e.pre _ _ h)
  | .ob _, _, h => by cases h; exact .ob _
  | .tup ds, _, h => by cases h with | tup h1 h2 => exact .tup (h1.ext0 e) (DenL.ext0 e ds h2)
  | .lst ds, _, h => by cases h with | lst h1 h2 => exact .lst (h1.ext0 e) (DenL.ext0 e ds h2)
theorem DenL.ext0 (e : Ext0 H ι H' ι') : ∀ (ds : List D) {vs : List V}, DenL K H ι vs ds → DenL K H' ι' vs ds
  | [], _, h => by cases h; exact .nil
  | d :: ds, _, h => by cases h with | cons h1 h2 => exact .cons (Den.ext0 e d h1) (DenL.ext0 e ds h2)
end
theorem DenL.length : ∀ {ds : List D} {vs : List V}, DenL K H ι vs ds → vs.length = ds.length
  | [], _, h => by cases h; rfl
  | _ :: _, _, h => by cases h with | cons _ h2 => simp [DenL.length h2]
theorem DenL.get : ∀ {ds : List D} {vs : List V} {i : Nat} {d : D}, DenL K H ι vs ds → ds[i]? = some d → ∃ v, vs[i]? = some v ∧ Den K H ι v d
  | [], _, i, d, h, e => by simp at e
  | _ :: _, _, 0, d, h, e => by
    cases h with
    | cons h1 h2 =>
      have e' := Option.some.inj (by simpa using e)
      subst e'
      exact ⟨_, rfl, h1⟩
  | _ :: _, _, i + 1, d, h, e => by
    cases h with
    | cons h1 h2 =>
      obtain ⟨v, a, b⟩ := DenL.get (i := i) h2 (by simpa using e)
      exact ⟨v, by simpa using a, b⟩
theorem DenL.append : ∀ {ds es : List D} {vs ws : List V}, DenL K H ι vs ds → DenL K H ι ws es → DenL K H ι (vs ++ ws) (ds ++ es)
  | [], _, _, _, h, g => by cases h; exact g
  | _ :: _, _, _, _, h, g => by cases h with | cons h1 h2 => exact .cons h1 (DenL.append h2 g)
theorem DenL.take : ∀ {ds : List D} {vs : List V} (n : Nat), DenL K H ι vs ds → DenL K H ι (vs.take n) (ds.take n)
  | _, _, 0, _ => by simp; exact .nil
  | [], _, n + 1, h => by cases h; simp; exact .nil
  | _ :: _, _, n + 1, h => by cases h with | cons h1 h2 => simpa using DenL.cons h1 (DenL.take n h2)
theorem DenL.drop : ∀ {ds : List D} {vs : List V} (n : Nat), DenL K H ι vs ds → DenL K H ι (vs.drop n) (ds.drop n)
  | _, _, 0, h => by simpa using h
  | [], _, n + 1, h => by cases h; simp; exact .nil
  | _ :: _, _, n + 1, h => by cases h with | cons h1 h2 => simpa using DenL.drop n h2
theorem DenL.set {v : V} {d : D} (r : Den K H ι v d) : ∀ {ds : List D} {vs : List V} (i : Nat), DenL K H ι vs ds → DenL K H ι (vs.set i v) (ds.set i d)
  | [], _, _, h => by cases h; simp; exact .nil
  | _ :: _, _, 0, h => by cases h with | cons h1 h2 => simpa using DenL.cons r h2
  | _ :: _, _, i + 1, h => by cases h with | cons h1 h2 => simpa using DenL.cons h1 (DenL.set r i h2)
theorem DenL.dropLast {ds : List D} {vs : List V} (h : DenL K H ι vs ds) : DenL K H ι vs.dropLast ds.dropLast := by
  rw [List.dropLast_eq_take, List.dropLast_eq_take, h.length]
  exact h.take _
theorem DenL.none_of {ds : List D} {vs : List V} {i : Nat} (h : DenL K H ι vs ds) (e : ds[i]? = none) : vs[i]? = none := by
  rw [List.getElem?_eq_none_iff] at e ⊢
  rw [h.length]; exact e
end

/-- a caught exception of the class C, its dict at dd -/
def ExK (C : Addr) (dd : Option Addr) (a : Addr) : HO := .ext fun h => ∃ (oe : Obj) (vs : Array Value), h.get? a = some oe ∧ oe.cls = .ref C ∧ oe.dict = dd ∧ oe.data = .fields vs
theorem exK_ok {P : Program} {w : World} {H : Hp} {h : Heap} {a C : Addr} {dd : Option Addr} {oe : Obj} {vs : Array Value} (e : h.get? a = some oe) (z : oe.cls = .ref C) (d : oe.dict = dd) (v : oe.data = .fields vs) : ObjOk P w H h a (ExK C dd a) :=
  ⟨⟨oe, vs, e, z, d, v⟩, ⟨oe, e⟩, fun _ _ ⟨o, v, q, r⟩ k => ⟨o, v, k o q, r⟩⟩
/-- the own fields of an exception -/
def FldD (K : PySem.W.Frag) (H : Hp) (ι : Ix) (fs : Option (List (Str × D))) (dd : Option Addr) : Prop :=
  match fs with
  | none => dd = none
  | some fs => ∃ d fv, dd = some d ∧ H d = some (.xd fv) ∧ ¬ ι.has d ∧ fv.map (·.1) = fs.map (·.1) ∧ DenL K H ι (fv.map (·.2)) (fs.map (·.2))
theorem FldD.ext0 {K : PySem.W.Frag} {H H' : Hp} {ι ι' : Ix} (e : Ext0 H ι H' ι') {fs : Option (List (Str × D))} {dd : Option Addr} (h : FldD K H ι fs dd) : FldD K H' ι' fs dd := by
  cases fs with
  | none => exact h
  | some fs =>
    obtain ⟨d, fv, h1, h2, h3, h4, h5⟩ := h
    exact ⟨d, fv, h1, e.keep _ _ h2 h3, e.out h2 h3, h4, DenL.ext0 e _ h5⟩
/-- what may be numbered -/
def Lv (o : HO) : Prop := (∃ vs, o = .lst vs) ∨ (∃ C dx fv, o = .ins C dx fv) ∨ ∃ C dd a, o = ExK C dd a
/-- a numbered object as it stands -/
def CellOk (K : PySem.W.Frag) (H : Hp) (ι : Ix) (x : Option Addr) : Cell → Prop
  | .gone => True
  | .exc y => ∃ a dd, x = some a ∧ H a = some (ExK y.cls dd a) ∧ FldD K H ι y.fs dd
  | .lst ds => ∃ a vs, x = some a ∧ H a = some (.lst vs) ∧ DenL K H ι vs ds
  | .ins C fs => ∃ a dx fv, x = some a ∧ H a = some (.ins C dx fv) ∧ H dx = some (.own a) ∧ ¬ ι.has dx ∧ fv.map (·.1) = fs.map (·.1) ∧ DenL K H ι (fv.map (·.2)) (fs.map (·.2))
structure RepS (K : PySem.W.Frag) (H : Hp) (ι : Ix) (S : Store) : Prop where
  len : ι.num.length = S.length
  nd : ∀ (m n : Nat) (a : Addr), ι.num[m]? = some (some a) → ι.num[n]? = some (some a) → m = n
  cell : ∀ (n : Nat) (x : Option Addr) (c : Cell), ι.num[n]? = some x → S[n]? = some c → CellOk K H ι x c
  live : ∀ (n : Nat) (a : Addr), ι.num[n]? = some (some a) → ∃ o, H a = some o ∧ Lv o
  dis : ∀ a, a ∈ ι.hid → some a ∉ ι.num ∧ ∃ o, H a = some o
theorem RepS.some_of {K : PySem.W.Frag} {H : Hp} {ι : Ix} {S : Store} (r : RepS K H ι S) {a : Addr} (m : ι.has a) : ∃ o, H a = some o := by
  rcases m with m | m
  · obtain ⟨n, e⟩ := List.mem_iff_getElem?.mp m
    obtain ⟨o, h, _⟩ := r.live n a e
    exact ⟨o, h⟩
  · exact (r.dis a m).2
theorem RepS.fresh {K : PySem.W.Frag} {H : Hp} {ι : Ix} {S : Store} (r : RepS K H ι S) {a : Addr} (h : H a = none) : ¬ ι.has a := fun m => by
  obtain ⟨o, e⟩ := r.some_of m
  rw [h] at e; cases e
theorem Ext.laid {H : Hp} {ι : Ix} {p : Addr} {o : HO} (hp : H p = none) : Ext H ι (upd H p o) ι :=
  ⟨⟨fun a u h n => by rw [upd_ne (ne_of_none h hp)]; exact h, fun _ _ h => h, fun _ h => .inl h⟩, rfl, fun a u _ h _ => by rw [upd_ne (ne_of_none h hp)]; exact h, fun _ h => .inl h⟩
theorem Ext.put {H : Hp} {ι : Ix} {n : Nat} {p : Addr} {o : HO} (hp : ι.num[n]? = some (some p)) : Ext H ι (upd H p o) ι :=
  ⟨⟨fun a u h k => by rw [upd_ne (fun z => k (by rw [z]; exact .inl (List.mem_of_getElem? hp)))]; exact h, fun _ _ h => h, fun _ h => .inl h⟩, rfl,
    fun a u _ h k => by rw [upd_ne (fun z => k (by rw [z]; exact List.mem_of_getElem? hp))]; exact h, fun _ h => .inl h⟩
theorem push_mem {ι : Ix} {p a : Addr} (m : some a ∈ (ι.push p).num) : some a ∈ ι.num ∨ a = p := by
  rcases List.mem_append.mp m with z | z
  · exact .inl z
  · exact .inr (by simpa using z)
theorem push_pre {ι : Ix} {p : Addr} {n : Nat} {x : Option Addr} (h : ι.num[n]? = some x) : (ι.push p).num[n]? = some x := by
  show (ι.num ++ [some p])[n]? = some x
  rw [List.getElem?_append_left (List.getElem?_eq_some_iff.mp h).1]; exact h
theorem Ext.cell {H : Hp} {ι : Ix} {p : Addr} {o : HO} (hp : H p = none) : Ext H ι (upd H p o) (ι.push p) :=
  ⟨⟨fun a u h n => by rw [upd_ne (ne_of_none h hp)]; exact h, fun n x h => push_pre h, fun a m => by
    rcases m with m | m
    · rcases push_mem m with z | z
      · exact .inl (.inl z)
      · exact .inr (by rw [z]; exact hp)
    · exact .inl (.inr m)⟩, rfl, fun a u _ h _ => by rw [upd_ne (ne_of_none h hp)]; exact h, fun a m => by
    rcases push_mem m with z | z
    · exact .inl z
    · exact .inr (by rw [z]; exact hp)⟩
/-- a numbered object that stands as it did, in a greater heap -/
theorem CellOk.ext0 {K : PySem.W.Frag} {H H' : Hp} {ι ι' : Ix} {x : Option Addr} {c : Cell} (e : Ext0 H ι H' ι') (hk : ∀ a o, x = some a → H a = some o → H' a = some o) (h : CellOk K H ι x c) : CellOk K H' ι' x c := by
  cases c with
  | gone => trivial
  | exc y =>
    obtain ⟨a, dd, e1, e2, e3⟩ := h
    exact ⟨a, dd, e1, hk a _ e1 e2, e3.ext0 e⟩
  | lst ds =>
    obtain ⟨a, vs, e1, e2, e3⟩ := h
    exact ⟨a, vs, e1, hk a _ e1 e2, DenL.ext0 e ds e3⟩
  | ins C fs =>
    obtain ⟨a, dx, fv, e1, e2, e3, e4, e5, e6⟩ := h
    exact ⟨a, dx, fv, e1, hk a _ e1 e2, e.keep _ _ e3 e4, e.out e3 e4, e5, DenL.ext0 e _ e6⟩
/-- something new is laid -/
theorem RepS.laid {K : PySem.W.Frag} {H : Hp} {ι : Ix} {S : Store} (r : RepS K H ι S) {p : Addr} {o : HO} (hp : H p = none) : RepS K (upd H p o) ι S := by
  have k : ∀ a u, H a = some u → upd H p o a = some u := fun a u h => by rw [upd_ne (ne_of_none h hp)]; exact h
  refine ⟨r.len, r.nd, fun n x c h1 h2 => (r.cell n x c h1 h2).ext0 (Ext.laid hp).toExt0 fun a u _ h => k a u h, fun n a h => ?_, fun a h => ?_⟩
  · obtain ⟨o, e, l⟩ := r.live n a h
    exact ⟨o, k _ _ e, l⟩
  · obtain ⟨h1, u, h2⟩ := r.dis a h
    exact ⟨h1, u, k _ _ h2⟩
/-- a new number -/
theorem RepS.addG {K : PySem.W.Frag} {H H' : Hp} {ι ι' : Ix} {S : Store} (r : RepS K H ι S) {p : Addr} {o : HO} {c : Cell} (hn : ι'.num = ι.num ++ [some p]) (hh : ∀ a, a ∈ ι'.hid → a ∈ ι.hid ∧ a ≠ p) (hp : some p ∉ ι.num) (hk : ∀ a u, a ≠ p → H a = some u → H' a = some u) (ho : H' p = some o) (e : Ext0 H ι H' ι') (hc : CellOk K H' ι' (some p) c) (hl : Lv o) :
    RepS K H' ι' (S ++ [c]) := by
  have nm : ∀ (n : Nat), ι.num[n]? ≠ some (some p) := fun n h => hp (List.mem_of_getElem? h)
  have at_ : ∀ {n : Nat} {x : Option Addr}, ι'.num[n]? = some x → (n < ι.num.length ∧ ι.num[n]? = some x) ∨ (n = ι.num.length ∧ x = some p) := fun {n x} h => by
    rw [hn] at h
    by_cases hn : n < ι.num.length
    · exact .inl ⟨hn, by rw [List.getElem?_append_left hn] at h; exact h⟩
    · rw [List.getElem?_append_right (by omega)] at h
      have z : n - ι.num.length = 0 := by
        have := (List.getElem?_eq_some_iff.mp h).1
        simpa using this
      rw [z] at h
      exact .inr ⟨by omega, (Option.some.inj (by simpa using h)).symm⟩
  refine ⟨by rw [hn]; simp [r.len], fun m n a h1 h2 => ?_, fun n x d h1 h2 => ?_, fun n a h => ?_, fun a h => ?_⟩
  · rcases at_ h1 with ⟨l1, q1⟩ | ⟨l1, q1⟩ <;> rcases at_ h2 with ⟨l2, q2⟩ | ⟨l2, q2⟩
    · exact r.nd m n a q1 q2
    · cases q2; exact absurd q1 (nm m)
    · cases q1; exact absurd q2 (nm n)
    · omega
  · rcases at_ h1 with ⟨l1, q1⟩ | ⟨l1, q1⟩
    · rw [List.getElem?_append_left (by rw [← r.len]; exact l1)] at h2
      exact (r.cell n x d q1 h2).ext0 e fun a u z h => hk a u (fun z' => nm n (by rw [q1, z, z'])) h
    · subst q1
      rw [l1, r.len] at h2
      have : d = c := by simpa using h2.symm
      subst this
      exact hc
  · rcases at_ h with ⟨l1, q1⟩ | ⟨l1, q1⟩
    · obtain ⟨o, e, l⟩ := r.live n a q1
      exact ⟨o, hk _ _ (fun z => nm n (by rw [q1, z])) e, l⟩
    · cases q1
      exact ⟨_, ho, hl⟩
  · obtain ⟨ha, na⟩ := hh a h
    obtain ⟨h1, u, h2⟩ := r.dis a ha
    exact ⟨fun m => by
      rw [hn] at m
      rcases List.mem_append.mp m with z | z
      · exact h1 z
      · exact na (by simpa using z), u, hk _ _ na h2⟩
theorem RepS.add {K : PySem.W.Frag} {H : Hp} {ι : Ix} {S : Store} (r : RepS K H ι S) {p : Addr} {o : HO} {c : Cell} (hp : H p = none) (hc : CellOk K (upd H p o) (ι.push p) (some p) c) (hl : Lv o) : RepS K (upd H p o) (ι.push p) (S ++ [c]) :=
  r.addG rfl (fun a h => ⟨h, fun z => by
    obtain ⟨_, u, e⟩ := r.dis a h
    rw [z, hp] at e; cases e⟩) (fun m => r.fresh hp (.inl m)) (fun a u h q => by rw [upd_ne h]; exact q) upd_same (Ext.cell hp).toExt0 hc hl
/-- a numbered object is changed -/
theorem RepS.put {K : PySem.W.Frag} {H : Hp} {ι : Ix} {S : Store} (r : RepS K H ι S) {n : Nat} {p : Addr} {o : HO} {c : Cell} (hp : ι.num[n]? = some (some p)) (hc : CellOk K (upd H p o) ι (some p) c) (hl : Lv o) :
    RepS K (upd H p o) ι (S.set n c) := by
  have k : ∀ a u, a ≠ p → H a = some u → upd H p o a = some u := fun a u h q => by rw [upd_ne h]; exact q
  refine ⟨by simp [r.len], r.nd, fun m x d h1 h2 => ?_, fun m a h => ?_, fun a h => ?_⟩
  · by_cases hm : n = m
    · subst hm
      rw [hp] at h1
      cases h1
      have hl : n < S.length := by rw [← r.len]; exact (List.getElem?_eq_some_iff.mp hp).1
      rw [List.getElem?_set_self hl] at h2
      cases h2
      exact hc
    · rw [List.getElem?_set_ne hm] at h2
      refine (r.cell m x d h1 h2).ext0 (Ext.put hp).toExt0 fun a u e q => k a u (fun z => hm ?_) q
      subst e
      exact r.nd n m p hp (z ▸ h1)
  · by_cases ha : a = p
    · subst ha
      exact ⟨_, upd_same, hl⟩
    · obtain ⟨o, e, l⟩ := r.live m a h
      exact ⟨o, k _ _ ha e, l⟩
  · obtain ⟨h1, u, h2⟩ := r.dis a h
    exact ⟨h1, u, k _ _ (fun z => h1 (by rw [z]; exact List.mem_of_getElem? hp)) h2⟩
/-! an object that no value may be -/
theorem Ext0.hide {H : Hp} {ι : Ix} {p : Addr} {o : HO} (hp : H p = none) : Ext0 H ι (upd H p o) (ι.hide p) :=
  ⟨fun a u h n => by rw [upd_ne (ne_of_none h hp)]; exact h, fun _ _ h => h, fun a m => by
    rcases m with m | m
    · exact .inl (.inl m)
    · rcases List.mem_cons.mp m with z | z
      · exact .inr (by rw [z]; exact hp)
      · exact .inl (.inr z)⟩
theorem RepS.hide {K : PySem.W.Frag} {H : Hp} {ι : Ix} {S : Store} (r : RepS K H ι S) {p : Addr} {o : HO} (hp : H p = none) : RepS K (upd H p o) (ι.hide p) S := by
  have k : ∀ a u, H a = some u → upd H p o a = some u := fun a u h => by rw [upd_ne (ne_of_none h hp)]; exact h
  refine ⟨r.len, r.nd, fun n x c h1 h2 => (r.cell n x c h1 h2).ext0 (Ext0.hide hp) fun a u _ h => k a u h, fun n a h => ?_, fun a h => ?_⟩
  · obtain ⟨o, e, l⟩ := r.live n a h
    exact ⟨o, k _ _ e, l⟩
  · rcases List.mem_cons.mp h with z | z
    · subst z
      exact ⟨fun m => r.fresh hp (.inl m), _, upd_same⟩
    · obtain ⟨h1, u, h2⟩ := r.dis a z
      exact ⟨h1, u, k _ _ h2⟩
theorem Ext0.hput {H : Hp} {ι : Ix} {p : Addr} {o : HO} (hp : p ∈ ι.hid) : Ext0 H ι (upd H p o) ι :=
  ⟨fun a u h k => by rw [upd_ne (fun z => k (by rw [z]; exact .inr hp))]; exact h, fun _ _ h => h, fun _ h => .inl h⟩
theorem RepS.hput {K : PySem.W.Frag} {H : Hp} {ι : Ix} {S : Store} (r : RepS K H ι S) {p : Addr} {o : HO} (hp : p ∈ ι.hid) : RepS K (upd H p o) ι S := by
  have np := (r.dis p hp).1
  have k : ∀ a u, a ≠ p → H a = some u → upd H p o a = some u := fun a u h q => by rw [upd_ne h]; exact q
  have nn : ∀ (n : Nat) (a : Addr), ι.num[n]? = some (some a) → a ≠ p := fun n a h z => np (by rw [← z]; exact List.mem_of_getElem? h)
  refine ⟨r.len, r.nd, fun n x c h1 h2 => (r.cell n x c h1 h2).ext0 (Ext0.hput hp) fun a u z h => k a u (nn n a (by rw [h1, z])) h, fun n a h => ?_, fun a h => ?_⟩
  · obtain ⟨o, e, l⟩ := r.live n a h
    exact ⟨o, k _ _ (nn n a h) e, l⟩
  · obtain ⟨h1, u, h2⟩ := r.dis a h
    by_cases ha : a = p
    · subst ha; exact ⟨h1, _, upd_same⟩
    · exact ⟨h1, u, k _ _ ha h2⟩
/-- .. may be one again -/
def Ix.show (ι : Ix) : Ix := ⟨ι.num, ι.hid.tail⟩
theorem Ext0.show {H : Hp} {ι : Ix} : Ext0 H ι H ι.show := ⟨fun _ _ h _ => h, fun _ _ h => h, fun _ m => .inl (m.imp id List.mem_of_mem_tail)⟩
theorem RepS.show {K : PySem.W.Frag} {H : Hp} {ι : Ix} {S : Store} (r : RepS K H ι S) : RepS K H ι.show S :=
  ⟨r.len, r.nd, fun n x c h1 h2 => (r.cell n x c h1 h2).ext0 Ext0.show fun _ _ _ h => h, r.live, fun a h => r.dis a (List.mem_of_mem_tail h)⟩
/-- the slots -/
structure RepE (K : PySem.W.Frag) (H : Hp) (ι : Ix) (σ : L2.St) (ρ : Env) : Prop where
  len : σ.length = ρ.length
  slot : ∀ (i : Nat) (d : D), ρ[i]? = some (some d) → ∃ v, σ[i]? = some (some v) ∧ Den K H ι v d
theorem RepE.ext0 {K : PySem.W.Frag} {H H' : Hp} {ι ι' : Ix} {σ : L2.St} {ρ : Env} (e : Ext0 H ι H' ι') (r : RepE K H ι σ ρ) : RepE K H' ι' σ ρ := ⟨r.len, fun i d h => let ⟨v, a, b⟩ := r.slot i d h; ⟨v, a, Den.ext0 e d b⟩⟩
theorem RepE.set {K : PySem.W.Frag} {H : Hp} {ι : Ix} {σ : L2.St} {ρ : Env} (r : RepE K H ι σ ρ) {v : V} {d : D} (i : Nat) (h : Den K H ι v d) : RepE K H ι (σ.set i (some v)) (ρ.set i (some d)) := by
  refine ⟨by simpa using r.len, fun j e q => ?_⟩
  by_cases hj : i = j
  · subst hj
    by_cases hl : i < ρ.length
    · rw [List.getElem?_set_self hl] at q
      cases q
      exact ⟨v, List.getElem?_set_self (by rw [r.len]; exact hl), h⟩
    · rw [List.getElem?_eq_none (by simpa using hl)] at q; cases q
  · rw [List.getElem?_set_ne hj] at q ⊢
    exact r.slot j e q
theorem RepE.forget {K : PySem.W.Frag} {H : Hp} {ι : Ix} {σ : L2.St} {ρ : Env} (r : RepE K H ι σ ρ) (i : Nat) (o : Option V) : RepE K H ι (σ.set i o) (ρ.set i none) := by
  refine ⟨by simpa using r.len, fun j e q => ?_⟩
  by_cases hj : i = j
  · subst hj
    by_cases hl : i < ρ.length
    · rw [List.getElem?_set_self hl] at q; cases q
    · rw [List.getElem?_eq_none (by simpa using hl)] at q; cases q
  · rw [List.getElem?_set_ne hj] at q ⊢
    exact r.slot j e q
section
variable {K : PySem.W.Frag} {H H' : Hp} {ι ι' : Ix}
theorem Den.ext (e : Ext H ι H' ι') (d : D) {v : V} (h : Den K H ι v d) : Den K H' ι' v d := Den.ext0 e.toExt0 d h
theorem DenL.ext (e : Ext H ι H' ι') (ds : List D) {vs : List V} (h : DenL K H ι vs ds) : DenL K H' ι' vs ds := DenL.ext0 e.toExt0 ds h
theorem FldD.ext (e : Ext H ι H' ι') {fs : Option (List (Str × D))} {dd : Option Addr} (h : FldD K H ι fs dd) : FldD K H' ι' fs dd := h.ext0 e.toExt0
theorem RepE.ext {σ : L2.St} {ρ : Env} (e : Ext H ι H' ι') (r : RepE K H ι σ ρ) : RepE K H' ι' σ ρ := r.ext0 e.toExt0
end
/-- an exception as it lies -/
def ExcD (K : PySem.W.Frag) (H : Hp) (ι : Ix) (x : Exn) (cls : Value) (dd : Option Addr) : Prop := cls = .ref x.cls ∧ FldD K H ι x.fs dd

/-! ### ends -/
/-- what is to be shown of an end r from (H, ι) on: Q behind it; E of an exception -/
def Fi (K : PySem.W.Frag) {α β : Type} (R : Hp → Ix → β → α → Prop) (E : XK) (H : Hp) (ι : Ix) (r : Res α) (Q : β → Hp → Prop) : Prop :=
  match r with
  | .ok a S' => ∀ v H' ι', Ext H ι H' ι' → RepS K H' ι' S' → R H' ι' v a → Q v H'
  | .exc x S' => ∀ cls dd H' ι', Ext H ι H' ι' → RepS K H' ι' S' → ExcD K H' ι' x cls dd → E cls dd H'
  | .bad => False
section
variable {K : PySem.W.Frag} {α β γ δ : Type} {R : Hp → Ix → β → α → Prop} {R' : Hp → Ix → δ → γ → Prop} {E : XK} {H : Hp} {ι : Ix}
theorem Fi.mono {r : Res α} {Q Q' : β → Hp → Prop} (h : Fi K R E H ι r Q) (q : ∀ v H', Q v H' → Q' v H') : Fi K R E H ι r Q' := by
  cases r with
  | ok a S => exact fun v H' ι' e s d => q _ _ (h v H' ι' e s d)
  | exc x S => exact h
  | bad => exact h
theorem Fi.from {H' : Hp} {ι' : Ix} {r : Res α} {Q : β → Hp → Prop} (e : Ext H ι H' ι') (h : Fi K R E H ι r Q) : Fi K R E H' ι' r Q := by
  cases r with
  | ok a S => exact fun v H' ι' e' s d => h v H' ι' (e.trans e') s d
  | exc x S => exact fun cls dd H' ι' e' s d => h cls dd H' ι' (e.trans e') s d
  | bad => exact h
/-- one behind another -/
theorem Fi.bind {r : Res α} {k : α → Store → Res γ} {Q : δ → Hp → Prop} (h : Fi K R' E H ι (r.bind k) Q) :
    Fi K R E H ι r (fun v H1 => ∃ ι1 a S1, Ext H ι H1 ι1 ∧ RepS K H1 ι1 S1 ∧ R H1 ι1 v a ∧ Fi K R' E H1 ι1 (k a S1) Q) := by
  cases r with
  | ok a S => exact fun v H' ι' e s d => ⟨ι', a, S, e, s, d, h.from e⟩
  | exc x S => exact h
  | bad => exact h
/-- an end that has come -/
theorem Fi.here {a : α} {S : Store} {v : β} {Q : β → Hp → Prop} (h : Fi K R E H ι (.ok a S) Q) (s : RepS K H ι S) (d : R H ι v a) : Q v H := h v H ι (Ext.refl H ι) s d
end

/-! ### readings -/
/-- an expression's, a test's, an argument list's: from the state (ρ, S) that the heap bears -/
def tGen (K : PySem.W.Frag) (W : WX) {α β : Type} (R : Hp → Ix → β → α → Prop) (m : Env → Store → Res α) : L2.St → Hp → (β → Hp → Prop) → Prop :=
  fun σ H Q => ∃ ρ S ι, RepE K H ι σ ρ ∧ RepS K H ι S ∧ Fi K R (fun cls dd H' => W cls dd σ H') H ι (m ρ S) Q
def tE (K : PySem.W.Frag) (W : WX) (m : EM) : TE := tGen K W (Den K) m
def tT (K : PySem.W.Frag) (W : WX) (m : BM) : TT := tGen K W (fun _ _ v a => v = a) m
def tA (K : PySem.W.Frag) (W : WX) (m : AM) : TA := tGen K W (DenL K) m

/-- the base of a def's body: the heap and the numbers at its entry -/
structure Base where
  H : Hp
  ι : Ix
structure Sta (K : PySem.W.Frag) (B : Base) (σ : L2.St) (ρ : Env) (H : Hp) (ι : Ix) (S : Store) : Prop where
  e : RepE K H ι σ ρ
  s : RepS K H ι S
  b : Ext B.H B.ι H ι
/-- what is to be shown of a statement's end -/
def Fs (K : PySem.W.Frag) (W : WX) (B : Base) (r : SR) (D : Ends) : Prop :=
  match r with
  | .nx ρ S => ∀ σ H ι, Sta K B σ ρ H ι S → D.nx σ H
  | .rt d S => ∀ v H ι, RepS K H ι S → Ext B.H B.ι H ι → Den K H ι v d → D.rt v H
  | .bk ρ S => ∀ σ H ι, Sta K B σ ρ H ι S → D.bk σ H
  | .ct ρ S => ∀ σ H ι, Sta K B σ ρ H ι S → D.ct σ H
  | .exc x ρ S => ∀ σ H ι cls dd, Sta K B σ ρ H ι S → ExcD K H ι x cls dd → W cls dd σ H
  | .bad => False
def tS (K : PySem.W.Frag) (W : WX) (B : Base) (m : SM) : TS := fun D σ H => ∃ ρ S ι, Sta K B σ ρ H ι S ∧ Fs K W B (m ρ S) D

/-! ### weakening -/
theorem pe_weak {X : Cx} {e : Expr} {t t' : TE} (h : PE X e t) (q : ∀ σ H Q, t' σ H Q → t σ H Q) : PE X e t' := ⟨fun pins s σ H Q I x => h.run pins s σ H Q I (q σ H Q x)⟩
theorem pt_weak {X : Cx} {e : Expr} {t t' : TT} (h : PT X e t) (q : ∀ σ H Q, t' σ H Q → t σ H Q) : PT X e t' := ⟨fun pins s σ H Q I x => h.run pins s σ H Q I (q σ H Q x)⟩
theorem pw_weak {X : Cx} {e : Expr} {t t' : TT} (h : PW X e t) (q : ∀ σ H Q, t' σ H Q → t σ H Q) : PW X e t' := ⟨fun wh pins s σ H Q I x => h.run wh pins s σ H Q I (q σ H Q x)⟩
theorem pa_weak {X : Cx} {e : List Expr} {t t' : TA} (h : PA X e t) (q : ∀ σ H Q, t' σ H Q → t σ H Q) : PA X e t' := ⟨fun pos pins s σ H Q I x => h.run pos pins s σ H Q I (q σ H Q x)⟩
theorem ps_weak {X : Cx} {e : Stmt} {t t' : TS} (h : PS X e t) (q : ∀ D σ H, t' D σ H → t D σ H) : PS X e t' := ⟨fun pins s σ H D I x => h.run pins s σ H D I (q D σ H x)⟩
theorem pss_weak {X : Cx} {e : List Stmt} {t t' : TS} (h : PSs X e t) (q : ∀ D σ H, t' D σ H → t D σ H) : PSs X e t' := ⟨fun pins s σ H D I x => h.run pins s σ H D I (q D σ H x)⟩
end MD

set_option maxHeartbeats 4000000
namespace MD
open PySem PySem.Spec PyProof.Rows L2

/-! ### the words of the functions -/
@[simp] def mVar (i : Nat) : EM := fun ρ S => match ρ[i]? with
  | some (some d) => .ok d S
  | _ => .bad
@[simp] def mC (d : D) : EM := fun _ S => .ok d S
@[simp] def mOp1 (f : D → Store → Res D) (a : EM) : EM := fun ρ S => (a ρ S).bind f
@[simp] def mOp2 (f : D → D → Store → Res D) (a b : EM) : EM := fun ρ S => (a ρ S).bind fun x S1 => (b ρ S1).bind fun y S2 => f x y S2
@[simp] def aNil : AM := fun _ S => .ok [] S
@[simp] def aCons (a : EM) (r : AM) : AM := fun ρ S => (a ρ S).bind fun x S1 => (r ρ S1).bind fun xs S2 => .ok (x :: xs) S2
@[simp] def mApp (g : List D → Store → Res D) (t : AM) : EM := fun ρ S => (t ρ S).bind g
/-- a value that is True or False -/
@[simp] def boolD : D → Store → Res Bool
  | .bl b, S => .ok b S
  | _, _ => .bad
@[simp] def bVal (a : EM) : BM := fun ρ S => (a ρ S).bind boolD
@[simp] def bNot (a : BM) : BM := fun ρ S => (a ρ S).bind fun b S1 => .ok (!b) S1
@[simp] def bAnd (a b : BM) : BM := fun ρ S => (a ρ S).bind fun c S1 => if c = true then b ρ S1 else .ok false S1
@[simp] def bOr (a b : BM) : BM := fun ρ S => (a ρ S).bind fun c S1 => if c = true then .ok true S1 else b ρ S1
@[simp] def mAnd (a b : EM) : EM := fun ρ S => (a ρ S).bind fun d S1 => match d with
  | .bl c => if c = true then b ρ S1 else .ok (.bl false) S1
  | _ => .bad
@[simp] def mOr (a b : EM) : EM := fun ρ S => (a ρ S).bind fun d S1 => match d with
  | .bl c => if c = true then .ok (.bl true) S1 else b ρ S1
  | _ => .bad
@[simp] def mNot (a : EM) : EM := fun ρ S => (a ρ S).bind fun d S1 => match d with
  | .bl c => .ok (.bl (!c)) S1
  | _ => .bad
@[simp] def mIf (c : BM) (a b : EM) : EM := fun ρ S => (c ρ S).bind fun k S1 => if k = true then a ρ S1 else b ρ S1
/-- a < b < c -/
@[simp] def mChain (f g : D → D → Store → Res D) (a b c : EM) : EM := fun ρ S => (a ρ S).bind fun x S1 => (b ρ S1).bind fun y S2 => (f x y S2).bind fun r S3 => match r with
  | .bl k => if k = true then (c ρ S3).bind fun z S4 => g y z S4 else .ok (.bl false) S3
  | _ => .bad

/-! ### the rules -/
section
variable {X : Cx} {W : WX} {K : PySem.W.Frag}
theorem DenL.one {H : Hp} {ι : Ix} {d : D} {vs : List V} (h : DenL K H ι vs [d]) : ∃ v, vs = [v] ∧ Den K H ι v d := by
  cases h with
  | cons h1 h2 => cases h2; exact ⟨_, rfl, h1⟩
theorem DenL.two {H : Hp} {ι : Ix} {d e : D} {vs : List V} (h : DenL K H ι vs [d, e]) : ∃ v w, vs = [v, w] ∧ Den K H ι v d ∧ Den K H ι w e := by
  cases h with
  | cons h1 h2 =>
    obtain ⟨w, rfl, h3⟩ := h2.one
    exact ⟨_, _, rfl, h1, h3⟩

/-- a first part, then the rest: the state is handed on -/
theorem tGen.bind {α β γ δ : Type} {R : Hp → Ix → β → α → Prop} {R' : Hp → Ix → δ → γ → Prop} {m : Env → Store → Res α} {k : Env → α → Store → Res γ} {σ : L2.St} {H : Hp} {Q : δ → Hp → Prop}
    (h : tGen K W R' (fun ρ S => (m ρ S).bind (k ρ)) σ H Q) :
    tGen K W R m σ H (fun v H1 => ∃ ρ ι1 a S1, RepE K H1 ι1 σ ρ ∧ RepS K H1 ι1 S1 ∧ R H1 ι1 v a ∧ Fi K R' (fun cls dd H' => W cls dd σ H') H1 ι1 (k ρ a S1) Q) := by
  obtain ⟨ρ, S, ι, he, hs, hf⟩ := h
  exact ⟨ρ, S, ι, he, hs, hf.bind.mono fun v H1 ⟨ι1, a, S1, e, s, d, f⟩ => ⟨ρ, ι1, a, S1, he.ext e, s, d, f⟩⟩

theorem pm_var (i : Nat) {x : Str} {pos : Pos} (hN : X.N[i]? = some x := by rfl) (hv : Vis X.env.scope x := by first | exact Or.inl rfl | exact Or.inr (Or.inl rfl) | exact Or.inr (Or.inr rfl)) (hd : (x == ("__debug__" : Str)) = false := by decide)
    (hcd : (x == ("__classdict__" : Str)) = false := by decide) : PE X (.Name x pos) (tE X.K W (mVar i)) := by
  refine pe_weak (pe_var (i := i) hN hv hd hcd) fun σ H Q h => ?_
  obtain ⟨ρ, S, ι, he, hs, hf⟩ := h
  unfold mVar at hf
  split at hf
  · rename_i d e
    obtain ⟨v, a, b⟩ := he.slot i d e
    exact ⟨v, a, hf.here hs b⟩
  · exact hf.elim
theorem pm_con {e : Expr} {v : V} {d : D} (h : PE X e (tC v)) (hd : ∀ H ι, Den X.K H ι v d) : PE X e (tE X.K W (mC d)) := pe_weak h fun σ H Q ⟨ρ, S, ι, he, hs, hf⟩ => hf.here hs (hd H ι)
theorem pm_int {i : Int} {j pos} : PE X (.Constant (.int i) j pos) (tE X.K W (mC (.int i))) := pm_con pe_int fun _ _ => .int i
theorem pm_str {x : Str} {j pos} : PE X (.Constant (.str x) j pos) (tE X.K W (mC (.str x))) := pm_con pe_str fun _ _ => .str x
theorem pm_bl {b : Bool} {j pos} : PE X (.Constant (.bool b) j pos) (tE X.K W (mC (.bl b))) := pm_con pe_bl fun _ _ => .bl b
theorem pm_non {j pos} : PE X (.Constant .none j pos) (tE X.K W (mC .non)) := pm_con pe_non fun _ _ => .non
/-- a constant of the module -/
theorem pm_glob {x : Str} {v : V} {u : Value} {d : D} {pos : Pos} (hg : Gl X x) (hm : X.mg x = some u) (r : RelV v u) (hd : ∀ H ι, Den X.K H ι v d) (hdb : (x == ("__debug__" : Str)) = false := by decide) : PE X (.Name x pos) (tE X.K W (mC d)) := pm_con (pe_glob hg hm r hdb) hd

/-- operations by values -/
def Op2R (K : PySem.W.Frag) (r : R2) (f : D → D → Store → Res D) : Prop :=
  ∀ (E : XK) (H : Hp) (ι : Ix) (S : Store) (v w : V) (d e : D) (Q : VK), RepS K H ι S → Den K H ι v d → Den K H ι w e → Fi K (Den K) E H ι (f d e S) Q → r v w H Q
def Op1R (K : PySem.W.Frag) (r : V → Hp → VK → Prop) (f : D → Store → Res D) : Prop :=
  ∀ (E : XK) (H : Hp) (ι : Ix) (S : Store) (v : V) (d : D) (Q : VK), RepS K H ι S → Den K H ι v d → Fi K (Den K) E H ι (f d S) Q → r v H Q
def AppR (K : PySem.W.Frag) (r : List V → Hp → VK → Prop) (g : List D → Store → Res D) : Prop :=
  ∀ (E : XK) (H : Hp) (ι : Ix) (S : Store) (vs : List V) (ds : List D) (Q : VK), RepS K H ι S → DenL K H ι vs ds → Fi K (Den K) E H ι (g ds S) Q → r vs H Q
theorem rd_op2 {r : R2} {f : D → D → Store → Res D} {a b : EM} (hf : Op2R K r f) {σ : L2.St} {H : Hp} {Q : VK} (h : tE K W (mOp2 f a b) σ H Q) : tOp r (tE K W a) (tE K W b) σ H Q := by
  obtain ⟨ρ, S, ι, he, hs, h⟩ := tGen.bind (R := Den K) (k := fun ρ x S1 => (b ρ S1).bind fun y S2 => f x y S2) h
  refine ⟨ρ, S, ι, he, hs, h.mono fun v H1 ⟨ρ1, ι1, x, S1, e1, s1, d1, h1⟩ => ?_⟩
  refine ⟨ρ1, S1, ι1, e1, s1, h1.bind.mono fun w H2 ⟨ι2, y, S2, x2, s2, d2, h2⟩ => ?_⟩
  exact hf _ H2 ι2 S2 v w x y Q s2 (Den.ext x2 x d1) d2 h2
theorem rd_op1 {r : V → Hp → VK → Prop} {f : D → Store → Res D} {a : EM} (hf : Op1R K r f) {σ : L2.St} {H : Hp} {Q : VK} (h : tE K W (mOp1 f a) σ H Q) : tUn r (tE K W a) σ H Q := by
  obtain ⟨ρ, S, ι, he, hs, h⟩ := tGen.bind (R := Den K) (k := fun _ x S1 => f x S1) h
  exact ⟨ρ, S, ι, he, hs, h.mono fun v H1 ⟨ρ1, ι1, x, S1, e1, s1, d1, h1⟩ => hf _ H1 ι1 S1 v x Q s1 d1 h1⟩
variable {a b c : Expr} {ma mb mc : EM} {pos : Pos}
theorem pm_op {op : Operator} {r : R2} {f : D → D → Store → Res D} (ho : OpR X (binaryOp op) r) (hf : Op2R X.K r f) (ha : PE X a (tE X.K W ma)) (hb : PE X b (tE X.K W mb)) : PE X (.BinOp a op b pos) (tE X.K W (mOp2 f ma mb)) :=
  pe_weak (pe_op ho ha hb) fun _ _ _ h => rd_op2 hf h
theorem pm_un {op : UnaryOp} {r : V → Hp → VK → Prop} {f : D → Store → Res D} (ho : UnR X (unaryOp op) r) (hf : Op1R X.K r f) (ha : PE X a (tE X.K W ma)) : PE X (.UnaryOp op a pos) (tE X.K W (mOp1 f ma)) :=
  pe_weak (pe_un ho ha) fun _ _ _ h => rd_op1 hf h
theorem pm_cmp {op : CmpOp} {r : R2} {f : D → D → Store → Res D} (ho : OpR X (compareOp op) r) (hf : Op2R X.K r f) (ha : PE X a (tE X.K W ma)) (hb : PE X b (tE X.K W mb)) (hm : behindInMarks op b = false) : PE X (.Compare a [op] [b] pos) (tE X.K W (mOp2 f ma mb)) :=
  pe_weak (pe_cmpR ho ha hb hm) fun _ _ _ h => rd_op2 hf h
/-- a test of a value that is True or False -/
theorem rd_test {m : EM} {σ : L2.St} {H : Hp} {Q : Bool → Hp → Prop} (h : tT K W (bVal m) σ H Q) : tE K W m σ H fun x H' => ∃ k, x = .bl k ∧ Q k H' := by
  obtain ⟨ρ, S, ι, he, hs, h⟩ := tGen.bind (R := Den K) (k := fun _ x S1 => boolD x S1) h
  refine ⟨ρ, S, ι, he, hs, h.mono fun v H1 ⟨ρ1, ι1, x, S1, e1, s1, d1, h1⟩ => ?_⟩
  cases x with
  | bl k => cases d1; exact ⟨k, rfl, h1.here (v := k) s1 rfl⟩
  | _ => exact h1.elim
theorem pmt_cmp {op : CmpOp} {r : R2} {f : D → D → Store → Res D} (ho : OpR X (compareOp op) r) (hf : Op2R X.K r f) (ha : PE X a (tE X.K W ma)) (hb : PE X b (tE X.K W mb)) (hm : behindInMarks op b = false) : PT X (.Compare a [op] [b] pos) (tT X.K W (bVal (mOp2 f ma mb))) :=
  pt_weak (pt_cmpR ho ha hb hm) fun σ H Q h => by
    obtain ⟨ρ, S, ι, he, hs, h⟩ := rd_test h
    exact rd_op2 hf ⟨ρ, S, ι, he, hs, h⟩
theorem pmt_val {e : Expr} {m : EM} (h : PE X e (tE X.K W m)) (he : ∀ whole, isTrue e X.env whole = (do let v ← whole; standAt e.pos; holding [v] (truthy v)) := by intro _; rfl) : PT X e (tT X.K W (bVal m)) :=
  pt_weak (pt_val h he) fun _ _ _ h => rd_test h
theorem rd_chain {r r' : R2} {f g : D → D → Store → Res D} (hf : Op2R K r f) (hg : Op2R K r' g) {σ : L2.St} {H : Hp} {Q : VK} (h : tE K W (mChain f g ma mb mc) σ H Q) : tChain r r' (tE K W ma) (tE K W mb) (tE K W mc) σ H Q := by
  obtain ⟨ρ, S, ι, he, hs, h⟩ := tGen.bind (R := Den K) (k := fun ρ x S1 => (mb ρ S1).bind fun y S2 => (f x y S2).bind fun r S3 => match r with
    | .bl k => if k = true then (mc ρ S3).bind fun z S4 => g y z S4 else .ok (.bl false) S3
    | _ => .bad) h
  refine ⟨ρ, S, ι, he, hs, h.mono fun v H1 ⟨ρ1, ι1, x, S1, e1, s1, d1, h1⟩ => ?_⟩
  refine ⟨ρ1, S1, ι1, e1, s1, h1.bind.mono fun w H2 ⟨ι2, y, S2, x2, s2, d2, h2⟩ => ?_⟩
  refine hf _ H2 ι2 S2 v w x y _ s2 (Den.ext x2 x d1) d2 (h2.bind.mono fun z H3 ⟨ι3, q, S3, x3, s3, d3, h3⟩ => ?_)
  cases q with
  | bl k =>
    cases d3
    refine ⟨k, rfl, ?_⟩
    by_cases hk : k = true
    · simp only [hk, if_true] at h3 ⊢
      exact ⟨ρ1, S3, ι3, (e1.ext x2).ext x3, s3, h3.bind.mono fun u H4 ⟨ι4, t, S4, x4, s4, d4, h4⟩ => hg _ H4 ι4 S4 w u y t Q s4 (Den.ext x4 y (Den.ext x3 y d2)) d4 h4⟩
    · have hk' : k = false := by simpa using hk
      subst hk'
      simp only [Bool.false_eq_true, if_false] at h3 ⊢
      exact h3.here s3 (.bl false)
  | _ => exact h3.elim
theorem pm_chain {op op' : CmpOp} {r r' : R2} {f g : D → D → Store → Res D} (ho : OpR X (compareOp op) r) (ho' : OpR X (compareOp op') r') (hf : Op2R X.K r f) (hg : Op2R X.K r' g) (ha : PE X a (tE X.K W ma)) (hb : PE X b (tE X.K W mb)) (hc : PE X c (tE X.K W mc))
    (hm : lastMarks [op, op'] [b, c] = false := by with_unfolding_all rfl) : PE X (.Compare a [op, op'] [b, c] pos) (tE X.K W (mChain f g ma mb mc)) :=
  pe_weak (pe_chain ho ho' ha hb hc hm) fun _ _ _ h => rd_chain hf hg h
theorem pmt_chain {op op' : CmpOp} {r r' : R2} {f g : D → D → Store → Res D} (ho : OpR X (compareOp op) r) (ho' : OpR X (compareOp op') r') (hf : Op2R X.K r f) (hg : Op2R X.K r' g) (ha : PE X a (tE X.K W ma)) (hb : PE X b (tE X.K W mb)) (hc : PE X c (tE X.K W mc))
    (hm : lastMarks [op, op'] [b, c] = false := by with_unfolding_all rfl) : PT X (.Compare a [op, op'] [b, c] pos) (tT X.K W (bVal (mChain f g ma mb mc))) :=
  pt_weak (pt_chain ho ho' ha hb hc hm) fun σ H Q h => by
    obtain ⟨ρ, S, ι, he, hs, h⟩ := rd_test h
    exact rd_chain hf hg ⟨ρ, S, ι, he, hs, h⟩

/-! tests -/
variable {ta tb : BM} {rest : List Expr}
theorem pmt_not (ha : PT X a (tT X.K W ta)) : PT X (.UnaryOp .Not a pos) (tT X.K W (bNot ta)) := pt_weak (pt_not ha) fun σ H Q h => by
  obtain ⟨ρ, S, ι, he, hs, h⟩ := tGen.bind (R := fun _ _ (v : Bool) a => v = a) (k := fun _ b S1 => .ok (!b) S1) h
  exact ⟨ρ, S, ι, he, hs, h.mono fun v H1 ⟨ρ1, ι1, x, S1, e1, s1, d1, h1⟩ => by subst d1; exact h1.here s1 rfl⟩
theorem pmw_and1 (ha : PT X a (tT X.K W ta)) : PW X (.BoolOp .And [a] pos) (tT X.K W ta) := pw_and1 ha
theorem pmw_or1 (ha : PT X a (tT X.K W ta)) : PW X (.BoolOp .Or [a] pos) (tT X.K W ta) := pw_or1 ha
theorem pmw_and (ha : PT X a (tT X.K W ta)) (hb : PW X (.BoolOp .And (b :: rest) pos) (tT X.K W tb)) : PW X (.BoolOp .And (a :: b :: rest) pos) (tT X.K W (bAnd ta tb)) := pw_weak (pw_and ha hb) fun σ H Q h => by
  obtain ⟨ρ, S, ι, he, hs, h⟩ := tGen.bind (R := fun _ _ (v : Bool) a => v = a) (k := fun ρ c S1 => if c = true then tb ρ S1 else .ok false S1) h
  refine ⟨ρ, S, ι, he, hs, h.mono fun v H1 ⟨ρ1, ι1, x, S1, e1, s1, d1, h1⟩ => ?_⟩
  subst d1
  cases v with
  | true => exact ⟨ρ1, S1, ι1, e1, s1, h1⟩
  | false => exact h1.here s1 rfl
theorem pmw_or (ha : PT X a (tT X.K W ta)) (hb : PW X (.BoolOp .Or (b :: rest) pos) (tT X.K W tb)) : PW X (.BoolOp .Or (a :: b :: rest) pos) (tT X.K W (bOr ta tb)) := pw_weak (pw_or ha hb) fun σ H Q h => by
  obtain ⟨ρ, S, ι, he, hs, h⟩ := tGen.bind (R := fun _ _ (v : Bool) a => v = a) (k := fun ρ c S1 => if c = true then .ok true S1 else tb ρ S1) h
  refine ⟨ρ, S, ι, he, hs, h.mono fun v H1 ⟨ρ1, ι1, x, S1, e1, s1, d1, h1⟩ => ?_⟩
  subst d1
  cases v with
  | true => exact h1.here s1 rfl
  | false => exact ⟨ρ1, S1, ι1, e1, s1, h1⟩
/-! values by truth -/
theorem pm_one {op} (ha : PE X a (tE X.K W ma)) : PE X (.BoolOp op [a] pos) (tE X.K W ma) := pe_one ha
theorem pm_and (ha : PE X a (tE X.K W ma)) (hb : PE X (.BoolOp .And (b :: rest) pos) (tE X.K W mb)) : PE X (.BoolOp .And (a :: b :: rest) pos) (tE X.K W (mAnd ma mb)) := pe_weak (pe_and ha hb) fun σ H Q h => by
  obtain ⟨ρ, S, ι, he, hs, h⟩ := tGen.bind (R := Den X.K) (k := fun ρ d S1 => match d with
    | .bl c => if c = true then mb ρ S1 else .ok (.bl false) S1
    | _ => .bad) h
  refine ⟨ρ, S, ι, he, hs, h.mono fun v H1 ⟨ρ1, ι1, x, S1, e1, s1, d1, h1⟩ => ?_⟩
  cases x with
  | bl k =>
    cases d1
    cases k with
    | true => exact ⟨true, rfl, ρ1, S1, ι1, e1, s1, h1⟩
    | false => exact ⟨false, rfl, h1.here s1 (.bl false)⟩
  | _ => exact h1.elim
theorem pm_or (ha : PE X a (tE X.K W ma)) (hb : PE X (.BoolOp .Or (b :: rest) pos) (tE X.K W mb)) : PE X (.BoolOp .Or (a :: b :: rest) pos) (tE X.K W (mOr ma mb)) := pe_weak (pe_or ha hb) fun σ H Q h => by
  obtain ⟨ρ, S, ι, he, hs, h⟩ := tGen.bind (R := Den X.K) (k := fun ρ d S1 => match d with
    | .bl c => if c = true then .ok (.bl true) S1 else mb ρ S1
    | _ => .bad) h
  refine ⟨ρ, S, ι, he, hs, h.mono fun v H1 ⟨ρ1, ι1, x, S1, e1, s1, d1, h1⟩ => ?_⟩
  cases x with
  | bl k =>
    cases d1
    cases k with
    | true => exact ⟨true, rfl, h1.here s1 (.bl true)⟩
    | false => exact ⟨false, rfl, ρ1, S1, ι1, e1, s1, h1⟩
  | _ => exact h1.elim
theorem pm_not (ha : PE X a (tE X.K W ma)) : PE X (.UnaryOp .Not a pos) (tE X.K W (mNot ma)) := pe_weak (pe_not ha) fun σ H Q h => by
  obtain ⟨ρ, S, ι, he, hs, h⟩ := tGen.bind (R := Den X.K) (R' := Den X.K) (m := ma) (k := fun _ d S1 => match d with
    | .bl c => .ok (.bl (!c)) S1
    | _ => .bad) h
  refine ⟨ρ, S, ι, he, hs, h.mono fun v H1 ⟨ρ1, ι1, x, S1, e1, s1, d1, h1⟩ => ?_⟩
  cases x with
  | bl k => cases d1; exact ⟨k, rfl, h1.here s1 (.bl _)⟩
  | _ => exact h1.elim
theorem pm_if {t : Expr} (hc : PT X t (tT X.K W ta)) (ha : PE X a (tE X.K W ma)) (hb : PE X b (tE X.K W mb)) : PE X (.IfExp t a b pos) (tE X.K W (mIf ta ma mb)) := pe_weak (pe_ifExp hc ha hb) fun σ H Q h => by
  obtain ⟨ρ, S, ι, he, hs, h⟩ := tGen.bind (R := fun _ _ (v : Bool) a => v = a) (k := fun ρ k S1 => if k = true then ma ρ S1 else mb ρ S1) h
  refine ⟨ρ, S, ι, he, hs, h.mono fun v H1 ⟨ρ1, ι1, x, S1, e1, s1, d1, h1⟩ => ?_⟩
  subst d1
  cases v with
  | true => exact ⟨ρ1, S1, ι1, e1, s1, h1⟩
  | false => exact ⟨ρ1, S1, ι1, e1, s1, h1⟩

/-! argument lists, displays -/
variable {es : List Expr} {tl : AM} {e : Expr} {m : EM}
theorem pma_nil : PA X [] (tA X.K W aNil) := pa_weak pa_nil fun σ H Q ⟨ρ, S, ι, he, hs, h⟩ => h.here hs .nil
theorem rd_cons {σ : L2.St} {H : Hp} {Q : List V → Hp → Prop} (h : tA K W (aCons m tl) σ H Q) : tCons (tE K W m) (tA K W tl) σ H Q := by
  obtain ⟨ρ, S, ι, he, hs, h⟩ := tGen.bind (R := Den K) (k := fun ρ x S1 => (tl ρ S1).bind fun xs S2 => .ok (x :: xs) S2) h
  refine ⟨ρ, S, ι, he, hs, h.mono fun v H1 ⟨ρ1, ι1, x, S1, e1, s1, d1, h1⟩ => ?_⟩
  refine ⟨ρ1, S1, ι1, e1, s1, h1.bind.mono fun w H2 ⟨ι2, y, S2, x2, s2, d2, h2⟩ => ?_⟩
  exact h2.here s2 (.cons (Den.ext x2 x d1) d2)
theorem pma_cons (ha : PE X e (tE X.K W m)) (hr : PA X es (tA X.K W tl)) (hs : starEach (e :: es) X.env = (false, eval e X.env) :: starEach es X.env := by rfl) : PA X (e :: es) (tA X.K W (aCons m tl)) := pa_weak (pa_cons ha hr hs) fun _ _ _ h => rd_cons h
/-- a new list, a new tuple; a new list that may be changed -/
def newTup (xs : List D) (S : Store) : Res D := if xs.length ≤ sizeLine then .ok (.tup xs) S else .bad
def newLst (xs : List D) (S : Store) : Res D := if xs.length ≤ sizeLine then .ok (.lst xs) S else .bad
def newCel (xs : List D) (S : Store) : Res D := if xs.length ≤ sizeLine then .ok (.loc S.length) (S ++ [.lst xs]) else .bad
end
end MD

set_option maxHeartbeats 4000000
namespace MD
open PySem PySem.Spec PyProof.Rows L2

/-! ### lists and tuples of the store -/
def lstOf (S : Store) : D → Option (List D)
  | .lst xs => some xs
  | .loc n => match S[n]? with
    | some (.lst xs) => some xs
    | _ => none
  | _ => none
def seqOf (S : Store) : D → Option (List D)
  | .tup xs => some xs
  | d => lstOf S d
section
variable {K : PySem.W.Frag} {H : Hp} {ι : Ix} {S : Store}
theorem lst_den (s : RepS K H ι S) {v : V} {d : D} {xs : List D} (h : Den K H ι v d) (e : lstOf S d = some xs) : ∃ a vs, v = .ref a ∧ Rd H a (.lst vs) ∧ DenL K H ι vs xs ∧ (∀ n, d = .loc n → ι.num[n]? = some (some a) ∧ H a = some (.lst vs)) := by
  cases d with
  | lst ys =>
    cases e
    cases h with
    | lst h1 h2 => exact ⟨_, _, rfl, h1.1, h2, fun n q => nomatch q⟩
  | loc n =>
    cases h with
    | @loc a _ h =>
      have e' : (match S[n]? with
        | some (.lst xs) => some xs
        | _ => none) = some xs := e
      cases q : S[n]? with
      | none => rw [q] at e'; cases e'
      | some c =>
        rw [q] at e'
        cases c with
        | lst ys =>
          cases e'
          obtain ⟨b, vs, e1, e2, e3⟩ := s.cell n _ _ h q
          cases e1
          exact ⟨_, _, rfl, .inl e2, e3, fun m z => by cases z; exact ⟨h, e2⟩⟩
        | gone => cases e'
        | ins C fs => cases e'
        | exc y => cases e'
  | _ => cases e
theorem seq_den (s : RepS K H ι S) {v : V} {d : D} {xs : List D} (h : Den K H ι v d) (e : seqOf S d = some xs) : ∃ a vs, v = .ref a ∧ (SqL K H a vs ∨ SqT K H a vs) ∧ DenL K H ι vs xs := by
  cases d with
  | tup ys =>
    cases e
    cases h with
    | tup h1 h2 => exact ⟨_, _, rfl, .inr h1.sq, h2⟩
  | lst ys =>
    obtain ⟨a, vs, e1, e2, e3, _⟩ := lst_den s h (show lstOf S (.lst ys) = some xs from e)
    exact ⟨a, vs, e1, .inl (.inl e2), e3⟩
  | loc n =>
    obtain ⟨a, vs, e1, e2, e3, _⟩ := lst_den s h (show lstOf S (.loc n) = some xs from e)
    exact ⟨a, vs, e1, .inl (.inl e2), e3⟩
  | _ => cases e
theorem Den.int_ {v : V} {i : Int} (h : Den K H ι v (.int i)) : v = .int i := by cases h; rfl
theorem Den.str_ {v : V} {x : Str} (h : Den K H ι v (.str x)) : v = .str x := by cases h; rfl
theorem Den.bl_ {v : V} {b : Bool} (h : Den K H ι v (.bl b)) : v = .bl b := by cases h; rfl
theorem Den.non_ {v : V} (h : Den K H ι v .non) : v = .non := by cases h; rfl
/-- a new list, a new tuple -/
theorem den_new_lst {p : Addr} {vs : List V} {xs : List D} (s : RepS K H ι S) (hp : H p = none) (h : DenL K H ι vs xs) : Den K (upd H p (.lst vs)) ι (.ref p) (.lst xs) :=
  .lst ⟨.inl upd_same, s.fresh hp⟩ (DenL.ext (Ext.laid hp) _ h)
theorem den_new_tup {p : Addr} {vs : List V} {xs : List D} (s : RepS K H ι S) (hp : H p = none) (h : DenL K H ι vs xs) : Den K (upd H p (.tup vs)) ι (.ref p) (.tup xs) :=
  .tup (.inl ⟨.inl upd_same, s.fresh hp⟩) (DenL.ext (Ext.laid hp) _ h)
theorem cell_new {p : Addr} {vs : List V} {xs : List D} (hp : H p = none) (h : DenL K H ι vs xs) : CellOk K (upd H p (.lst vs)) (ι.push p) (some p) (.lst xs) :=
  ⟨p, vs, rfl, upd_same, DenL.ext (Ext.cell hp) _ h⟩
/-- .. a new list in an end -/
theorem fi_newLst {E : XK} {Q : VK} {xs : List D} {vs : List V} (s : RepS K H ι S) (h : DenL K H ι vs xs) (f : Fi K (Den K) E H ι (newLst xs S) Q) : vs.length ≤ sizeLine ∧ ∀ p, H p = none → Q (.ref p) (upd H p (.lst vs)) := by
  unfold newLst at f
  split at f
  · rename_i hz
    exact ⟨by rw [h.length]; exact hz, fun p hp => f _ _ _ (Ext.laid hp) (s.laid hp) (den_new_lst s hp h)⟩
  · exact f.elim
theorem fi_newTup {E : XK} {Q : VK} {xs : List D} {vs : List V} (s : RepS K H ι S) (h : DenL K H ι vs xs) (f : Fi K (Den K) E H ι (newTup xs S) Q) : vs.length ≤ sizeLine ∧ ∀ p, H p = none → Q (.ref p) (upd H p (.tup vs)) := by
  unfold newTup at f
  split at f
  · rename_i hz
    exact ⟨by rw [h.length]; exact hz, fun p hp => f _ _ _ (Ext.laid hp) (s.laid hp) (den_new_tup s hp h)⟩
  · exact f.elim
theorem fi_newCel {E : XK} {Q : VK} {xs : List D} {vs : List V} (s : RepS K H ι S) (h : DenL K H ι vs xs) (f : Fi K (Den K) E H ι (newCel xs S) Q) : vs.length ≤ sizeLine ∧ ∀ p, H p = none → Q (.ref p) (upd H p (.lst vs)) := by
  unfold newCel at f
  split at f
  · rename_i hz
    refine ⟨by rw [h.length]; exact hz, fun p hp => f _ _ _ (Ext.cell hp) (s.add hp (cell_new hp h) (.inl ⟨_, rfl⟩)) (.loc ?_)⟩
    rw [← s.len]
    show (ι.num ++ [some p])[ι.num.length]? = _
    rw [List.getElem?_append_right (Nat.le_refl _)]
    simp
  · exact f.elim
/-- how a new list is laid: by itself, or numbered -/
def newL (c : Bool) (xs : List D) (S : Store) : Res D := if c = true then newCel xs S else newLst xs S
theorem fi_newL {c : Bool} {E : XK} {Q : VK} {xs : List D} {vs : List V} (s : RepS K H ι S) (h : DenL K H ι vs xs) (f : Fi K (Den K) E H ι (newL c xs S) Q) : vs.length ≤ sizeLine ∧ ∀ p, H p = none → Q (.ref p) (upd H p (.lst vs)) := by
  cases c with
  | true => exact fi_newCel s h f
  | false => exact fi_newLst s h f
end

section
variable {X : Cx} {W : WX} {K : PySem.W.Frag} {es : List Expr} {tl : AM} {pos : Pos}
theorem pm_tup {x1} (h : PA X es (tA X.K W tl)) : PE X (.Tuple es x1 pos) (tE X.K W (mApp newTup tl)) := pe_weak (pe_tup h) fun σ H Q q => by
  obtain ⟨ρ, S, ι, he, hs, q⟩ := tGen.bind (R := DenL X.K) (k := fun _ xs S1 => newTup xs S1) q
  exact ⟨ρ, S, ι, he, hs, q.mono fun v H1 ⟨ρ1, ι1, xs, S1, e1, s1, d1, f⟩ => fi_newTup s1 d1 f⟩
theorem pm_lst (c : Bool) (h : PA X es (tA X.K W tl)) : PE X (.List es pos) (tE X.K W (mApp (newL c) tl)) := pe_weak (pe_lst h) fun σ H Q q => by
  obtain ⟨ρ, S, ι, he, hs, q⟩ := tGen.bind (R := DenL X.K) (k := fun _ xs S1 => newL c xs S1) q
  exact ⟨ρ, S, ι, he, hs, q.mono fun v H1 ⟨ρ1, ι1, xs, S1, e1, s1, d1, f⟩ => fi_newL s1 d1 f⟩
end

/-! ### whole numbers -/
/-- an operation of two whole numbers under a condition -/
@[simp] def fI (C : Int → Int → Prop) [∀ i j, Decidable (C i j)] (g : Int → Int → D) : D → D → Store → Res D
  | .int i, .int j, S => if C i j then .ok (g i j) S else .bad
  | _, _, _ => .bad
theorem rd_fI {K : PySem.W.Frag} {C : Int → Int → Prop} [∀ i j, Decidable (C i j)] {gV : Int → Int → V} {g : Int → Int → D} (hg : ∀ H ι i j, Den K H ι (gV i j) (g i j)) : Op2R K (rI C gV) (fI C g) := by
  intro E H ι S v w d e Q s hv hw f
  cases d with
  | int i =>
    cases e with
    | int j =>
      cases hv; cases hw
      replace f : Fi K (Den K) E H ι (if C i j then .ok (g i j) S else .bad) Q := f
      by_cases hc : C i j
      · rw [if_pos hc] at f
        exact ⟨i, j, rfl, rfl, hc, f.here s (hg _ _ i j)⟩
      · rw [if_neg hc] at f; exact f.elim
    | _ => exact f.elim
  | _ => exact f.elim
theorem rI0_of {g : Int → Int → V} {x y : V} {H : Hp} {Q : VK} (h : rI (fun _ _ => True) g x y H Q) : rI0 g x y H Q := by
  obtain ⟨i, j, a, b, _, q⟩ := h
  exact ⟨i, j, a, b, q⟩
abbrev CT : Int → Int → Prop := fun _ _ => True
instance : ∀ i j : Int, Decidable (CT i j) := fun _ _ => .isTrue trivial
def CMulA (i j : Int) : Prop := CMul i j ∨ CMulW i j
instance (i j : Int) : Decidable (CMulA i j) := by unfold CMulA CMul CMulW; infer_instance
def CDivA (i j : Int) : Prop := 0 < j ∧ (j.natAbs < 1073741824 ∨ j.natAbs.log2 < 9000)
instance (i j : Int) : Decidable (CDivA i j) := by unfold CDivA; infer_instance
def CModA (_ j : Int) : Prop := 0 < j
instance (i j : Int) : Decidable (CModA i j) := by unfold CModA; infer_instance
instance (i j : Int) : Decidable (CPow i j) := by unfold CPow; infer_instance
def CShr (_ j : Int) : Prop := 0 ≤ j
instance (i j : Int) : Decidable (CShr i j) := by unfold CShr; infer_instance
section
variable {X : Cx}
theorem op_mulA : OpR X (binaryOp .Mult) (rI CMulA fun i j => .int (i * j)) := opI fun i j _ _ _ _ _ hc q => mul_int q (by rcases hc with h | h; exact h.ok; exact h.ok)
theorem op_fdivA : OpR X (binaryOp .FloorDiv) (rI CDivA fun i j => .int (i / j)) := by
  intro pins s σ H x y v u Q I rx ry h
  obtain ⟨i, j, rfl, rfl, ⟨h0, h1⟩, q⟩ := h
  rcases h1 with h1 | h1
  · refine op_fdiv pins s σ H _ _ v u Q I rx ry ⟨i, j, rfl, rfl, ⟨h0, by omega⟩, q⟩
  · exact op_fdivW pins s σ H _ _ v u Q I rx ry ⟨i, j, rfl, rfl, ⟨h0, h1⟩, q⟩
theorem opr_I0 {f : Value → Value → Sem Value} {g : Int → Int → V} (h : OpR X f (rI0 g)) : OpR X f (rI CT g) := fun pins s σ H x y v u Q I rx ry q => h pins s σ H x y v u Q I rx ry (rI0_of q)
end
abbrev subF := fI CT fun i j => .int (i - j)
abbrev mulF := fI CMulA fun i j => .int (i * j)
abbrev fdivF := fI CDivA fun i j => .int (i / j)
abbrev modF := fI CModA fun i j => .int (i % j)
abbrev powF := fI CPow fun i j => .int (i ^ j.toNat)
abbrev shrF := fI CShr fun i j => .int (i / 2 ^ j.toNat)
abbrev bandF := fI CT fun i j => .int (Builtin.bitAnd i j)
abbrev ltF := fI CT fun i j => .bl (decide (i < j))
abbrev leF := fI CT fun i j => .bl (decide (i ≤ j))
abbrev gtF := fI CT fun i j => .bl (decide (j < i))
abbrev geF := fI CT fun i j => .bl (decide (j ≤ i))
def negF : D → Store → Res D
  | .int i, S => .ok (.int (-i)) S
  | _, _ => .bad
theorem rd_neg {K : PySem.W.Frag} : Op1R K (rU fun i => .int (-i)) negF := by
  intro E H ι S v d Q s hv f
  cases d with
  | int i => cases hv; exact ⟨i, rfl, f.here s (.int _)⟩
  | _ => exact f.elim
section
variable {X : Cx} {W : WX} {a b c : Expr} {ma mb mc : EM} {pos : Pos}
theorem pm_sub (ha : PE X a (tE X.K W ma)) (hb : PE X b (tE X.K W mb)) : PE X (.BinOp a .Sub b pos) (tE X.K W (mOp2 subF ma mb)) := pm_op (opr_I0 op_sub) (rd_fI fun _ _ _ _ => .int _) ha hb
theorem pm_mul (ha : PE X a (tE X.K W ma)) (hb : PE X b (tE X.K W mb)) : PE X (.BinOp a .Mult b pos) (tE X.K W (mOp2 mulF ma mb)) := pm_op op_mulA (rd_fI fun _ _ _ _ => .int _) ha hb
theorem pm_fdiv (ha : PE X a (tE X.K W ma)) (hb : PE X b (tE X.K W mb)) : PE X (.BinOp a .FloorDiv b pos) (tE X.K W (mOp2 fdivF ma mb)) := pm_op op_fdivA (rd_fI fun _ _ _ _ => .int _) ha hb
theorem pm_mod (ha : PE X a (tE X.K W ma)) (hb : PE X b (tE X.K W mb)) : PE X (.BinOp a .Mod b pos) (tE X.K W (mOp2 modF ma mb)) := pm_op op_mod (rd_fI (C := CModA) fun _ _ _ _ => .int _) ha hb
theorem pm_pow (ha : PE X a (tE X.K W ma)) (hb : PE X b (tE X.K W mb)) : PE X (.BinOp a .Pow b pos) (tE X.K W (mOp2 powF ma mb)) := pm_op op_pow (rd_fI fun _ _ _ _ => .int _) ha hb
theorem pm_shr (ha : PE X a (tE X.K W ma)) (hb : PE X b (tE X.K W mb)) : PE X (.BinOp a .RShift b pos) (tE X.K W (mOp2 shrF ma mb)) := pm_op op_shr (rd_fI (C := CShr) fun _ _ _ _ => .int _) ha hb
theorem pm_band (ha : PE X a (tE X.K W ma)) (hb : PE X b (tE X.K W mb)) : PE X (.BinOp a .BitAnd b pos) (tE X.K W (mOp2 bandF ma mb)) := pm_op (opr_I0 op_and) (rd_fI fun _ _ _ _ => .int _) ha hb
theorem pm_neg (ha : PE X a (tE X.K W ma)) : PE X (.UnaryOp .USub a pos) (tE X.K W (mOp1 negF ma)) := pm_un un_neg rd_neg ha
theorem pm_lt (ha : PE X a (tE X.K W ma)) (hb : PE X b (tE X.K W mb)) : PE X (.Compare a [.Lt] [b] pos) (tE X.K W (mOp2 ltF ma mb)) := pm_cmp (opr_I0 op_lt) (rd_fI fun _ _ _ _ => .bl _) ha hb (nomark _)
theorem pm_le (ha : PE X a (tE X.K W ma)) (hb : PE X b (tE X.K W mb)) : PE X (.Compare a [.LtE] [b] pos) (tE X.K W (mOp2 leF ma mb)) := pm_cmp (opr_I0 op_le) (rd_fI fun _ _ _ _ => .bl _) ha hb (nomark _)
theorem pm_gt (ha : PE X a (tE X.K W ma)) (hb : PE X b (tE X.K W mb)) : PE X (.Compare a [.Gt] [b] pos) (tE X.K W (mOp2 gtF ma mb)) := pm_cmp (opr_I0 op_gt) (rd_fI fun _ _ _ _ => .bl _) ha hb (nomark _)
theorem pm_ge (ha : PE X a (tE X.K W ma)) (hb : PE X b (tE X.K W mb)) : PE X (.Compare a [.GtE] [b] pos) (tE X.K W (mOp2 geF ma mb)) := pm_cmp (opr_I0 op_ge) (rd_fI fun _ _ _ _ => .bl _) ha hb (nomark _)
theorem pmt_lt (ha : PE X a (tE X.K W ma)) (hb : PE X b (tE X.K W mb)) : PT X (.Compare a [.Lt] [b] pos) (tT X.K W (bVal (mOp2 ltF ma mb))) := pmt_cmp (opr_I0 op_lt) (rd_fI fun _ _ _ _ => .bl _) ha hb (nomark _)
theorem pmt_le (ha : PE X a (tE X.K W ma)) (hb : PE X b (tE X.K W mb)) : PT X (.Compare a [.LtE] [b] pos) (tT X.K W (bVal (mOp2 leF ma mb))) := pmt_cmp (opr_I0 op_le) (rd_fI fun _ _ _ _ => .bl _) ha hb (nomark _)
theorem pmt_gt (ha : PE X a (tE X.K W ma)) (hb : PE X b (tE X.K W mb)) : PT X (.Compare a [.Gt] [b] pos) (tT X.K W (bVal (mOp2 gtF ma mb))) := pmt_cmp (opr_I0 op_gt) (rd_fI fun _ _ _ _ => .bl _) ha hb (nomark _)
theorem pmt_ge (ha : PE X a (tE X.K W ma)) (hb : PE X b (tE X.K W mb)) : PT X (.Compare a [.GtE] [b] pos) (tT X.K W (bVal (mOp2 geF ma mb))) := pmt_cmp (opr_I0 op_ge) (rd_fI fun _ _ _ _ => .bl _) ha hb (nomark _)
theorem pm_lele (ha : PE X a (tE X.K W ma)) (hb : PE X b (tE X.K W mb)) (hc : PE X c (tE X.K W mc)) (hm : lastMarks [.LtE, .LtE] [b, c] = false := by with_unfolding_all rfl) : PE X (.Compare a [.LtE, .LtE] [b, c] pos) (tE X.K W (mChain leF leF ma mb mc)) :=
  pm_chain (opr_I0 op_le) (opr_I0 op_le) (rd_fI fun _ _ _ _ => .bl _) (rd_fI fun _ _ _ _ => .bl _) ha hb hc hm
theorem pm_lelt (ha : PE X a (tE X.K W ma)) (hb : PE X b (tE X.K W mb)) (hc : PE X c (tE X.K W mc)) (hm : lastMarks [.LtE, .Lt] [b, c] = false := by with_unfolding_all rfl) : PE X (.Compare a [.LtE, .Lt] [b, c] pos) (tE X.K W (mChain leF ltF ma mb mc)) :=
  pm_chain (opr_I0 op_le) (opr_I0 op_lt) (rd_fI fun _ _ _ _ => .bl _) (rd_fI fun _ _ _ _ => .bl _) ha hb hc hm
theorem pmt_lele (ha : PE X a (tE X.K W ma)) (hb : PE X b (tE X.K W mb)) (hc : PE X c (tE X.K W mc)) (hm : lastMarks [.LtE, .LtE] [b, c] = false := by with_unfolding_all rfl) : PT X (.Compare a [.LtE, .LtE] [b, c] pos) (tT X.K W (bVal (mChain leF leF ma mb mc))) :=
  pmt_chain (opr_I0 op_le) (opr_I0 op_le) (rd_fI fun _ _ _ _ => .bl _) (rd_fI fun _ _ _ _ => .bl _) ha hb hc hm
theorem pmt_lelt (ha : PE X a (tE X.K W ma)) (hb : PE X b (tE X.K W mb)) (hc : PE X c (tE X.K W mc)) (hm : lastMarks [.LtE, .Lt] [b, c] = false := by with_unfolding_all rfl) : PT X (.Compare a [.LtE, .Lt] [b, c] pos) (tT X.K W (bVal (mChain leF ltF ma mb mc))) :=
  pmt_chain (opr_I0 op_le) (opr_I0 op_lt) (rd_fI fun _ _ _ _ => .bl _) (rd_fI fun _ _ _ _ => .bl _) ha hb hc hm
end

/-! ### + and * -/
def addF (c : Bool) : D → D → Store → Res D
  | .int i, .int j, S => .ok (.int (i + j)) S
  | .str x, .str y, S => if x.length + y.length ≤ sizeLine then .ok (.str (x ++ y)) S else .bad
  | .tup xs, .tup ys, S => newTup (xs ++ ys) S
  | d, e, S => match lstOf S d, lstOf S e with
    | some xs, some ys => newL c (xs ++ ys) S
    | _, _ => .bad
/-- list + list: read from anywhere -/
def rCatR : R2 := fun x y H Q => ∃ l b xs zs, x = .ref l ∧ y = .ref b ∧ Rd H l (.lst xs) ∧ Rd H b (.lst zs) ∧ xs.length + zs.length ≤ sizeLine ∧ ∀ p, H p = none → Q (.ref p) (upd H p (.lst (xs ++ zs)))
section
variable {X : Cx} {pins : List (Addr × Obj)} {σ : L2.St} {H : Hp} {s : Shared}
theorem rd_lst (I : Inv X pins σ H s) {l : Addr} {xs : List V} (h : Rd H l (.lst xs)) : xs.length ≤ sizeLine ∧ ∃ (its : List Value) (n : Nat), Vals xs its ∧ xs.length = its.length ∧ s.heap.get? l = some { cls := .type "list", data := .seq its.toArray n } := by
  obtain ⟨z, its, n, r, e⟩ := h.ok I.hok
  exact ⟨z, its, n, r, r.length, e⟩
end
section
variable {X : Cx}
theorem op_catR : OpR X (binaryOp .Add) rCatR := by
  intro pins s σ H x y v u Q I rx ry h
  obtain ⟨l, b, xs, zs, rfl, rfl, hH, hB, hz, q⟩ := h
  cases rx
  cases ry
  obtain ⟨z, its, n, r, hl, e⟩ := rd_lst I hH
  obtain ⟨z2, its2, n2, r2, hl2, e2⟩ := rd_lst I hB
  refine PySem.P.add_list e e2 ?_ (by rw [List.size_toArray, List.size_toArray]; omega)
  have ea : its.toArray ++ its2.toArray = (its ++ its2).toArray := by simp
  rw [ea]
  exact ⟨.ref _, _, I.lnew (t' := s.toks) (r.append r2) (by rw [List.length_append]; omega), rfl, q _ I.fresh⟩
abbrev rAddA (K : PySem.W.Frag) : R2 := fun x y H Q => rI0 (fun i j => .int (i + j)) x y H Q ∨ (∃ i j, x = .str i ∧ y = .str j ∧ i.length + j.length ≤ sizeLine ∧ Q (.str (i ++ j)) H) ∨ rCatA K x y H Q ∨ rCatR x y H Q
theorem op_addA : OpR X (binaryOp .Add) (rAddA X.K) := op_add.or (op_add_str.or (op_catA.or op_catR))
theorem rd_cat {K : PySem.W.Frag} {c : Bool} {E : XK} {H : Hp} {ι : Ix} {S : Store} {v w : V} {d e : D} {Q : VK} (s : RepS K H ι S) (hv : Den K H ι v d) (hw : Den K H ι w e)
    (f : Fi K (Den K) E H ι (match lstOf S d, lstOf S e with
    | some xs, some ys => newL c (xs ++ ys) S
    | _, _ => .bad) Q) : rCatR v w H Q := by
  cases e1 : lstOf S d with
  | none => rw [e1] at f; exact f.elim
  | some xs =>
    cases e2 : lstOf S e with
    | none => rw [e1, e2] at f; exact f.elim
    | some ys =>
      rw [e1, e2] at f
      obtain ⟨a, vs, rfl, h1, h2, _⟩ := lst_den s hv e1
      obtain ⟨b, ws, rfl, h3, h4, _⟩ := lst_den s hw e2
      obtain ⟨z, q⟩ := fi_newL s (h2.append h4) f
      rw [List.length_append] at z
      exact ⟨a, b, vs, ws, rfl, rfl, h1, h3, z, q⟩
theorem rd_add {K : PySem.W.Frag} {c : Bool} : Op2R K (rAddA K) (addF c) := by
  intro E H ι S v w d e Q s hv hw f
  unfold addF at f
  split at f
  · cases hv; cases hw; exact .inl ⟨_, _, rfl, rfl, f.here s (.int _)⟩
  · cases hv; cases hw
    split at f
    · rename_i hz
      exact .inr (.inl ⟨_, _, rfl, rfl, hz, f.here s (.str _)⟩)
    · exact f.elim
  · rename_i xs ys
    cases hv with
    | tup h1 h2 =>
      cases hw with
      | tup h3 h4 =>
        obtain ⟨z, q⟩ := fi_newTup s (h2.append h4) f
        rw [List.length_append] at z
        refine .inr (.inr (.inl ⟨_, _, _, _, rfl, rfl, h1.sq, h3.sq, z, fun e => ?_, fun _ e => ?_, fun _ _ => q⟩))
        · subst e
          have e0 : xs = [] := by cases xs with | nil => rfl | cons _ _ => cases h2
          subst e0
          unfold newTup at f
          split at f
          · exact f.here s (.tup h3 h4)
          · exact f.elim
        · subst e
          have e0 : ys = [] := by cases ys with | nil => rfl | cons _ _ => cases h4
          subst e0
          rw [List.append_nil] at f
          unfold newTup at f
          split at f
          · exact f.here s (.tup h1 h2)
          · exact f.elim
  · exact .inr (.inr (.inr (rd_cat s hv hw f)))
variable {W : WX} {a b : Expr} {ma mb : EM} {pos : Pos}
theorem pm_add (c : Bool) (ha : PE X a (tE X.K W ma)) (hb : PE X b (tE X.K W mb)) : PE X (.BinOp a .Add b pos) (tE X.K W (mOp2 (addF c) ma mb)) := pm_op op_addA rd_add ha hb
end
end MD

set_option maxHeartbeats 4000000
namespace MD
open PySem PySem.Spec PyProof.Rows L2

/-! ### data as a whole -/
def optAll {α β : Type} (f : α → Option β) : List α → Option (List β)
  | [] => some []
  | x :: xs => (f x).bind fun y => (optAll f xs).bind fun ys => some (y :: ys)
mutual
def toPy (g : Nat → Option (List PyData)) : D → Option PyData
  | .non => some .none
  | .bl b => some (.bool b)
  | .int i => some (.int i)
  | .str x => some (.str x)
  | .tup xs => (toPyL g xs).map PyData.tuple
  | .lst xs => (toPyL g xs).map PyData.list
  | .loc n => (g n).map PyData.list
  | .ob _ => none
def toPyL (g : Nat → Option (List PyData)) : List D → Option (List PyData)
  | [] => some []
  | x :: xs => (toPy g x).bind fun y => (toPyL g xs).bind fun ys => some (y :: ys)
end
def flat : Nat → Store → D → Option PyData
  | 0, _ => toPy fun _ => none
  | k + 1, S => toPy fun n => match S[n]? with
    | some (.lst xs) => optAll (flat k S) xs
    | _ => none
/-- what a value is, its numbered lists read -/
def flatS (S : Store) (d : D) : Option PyData := flat 5 S d
section
variable {K : PySem.W.Frag} {H : Hp} {ι : Ix} {S : Store}
mutual
theorem toPy_dp (s : RepS K H ι S) {g : Nat → Option (List PyData)} (hg : ∀ n ps a, g n = some ps → ι.num[n]? = some (some a) → ∃ vs, H a = some (.lst vs) ∧ DpAll K H vs ps) : ∀ (d : D) {v : V} {p : PyData}, Den K H ι v d → toPy g d = some p → Dp K H v p
  | .non, _, _, h, e => by cases h; cases e; exact .non
  | .bl b, _, _, h, e => by cases h; cases e; exact .bl b
  | .int i, _, _, h, e => by cases h; cases e; exact .int i
  | .str x, _, _, h, e => by cases h; cases e; exact .str x
  | .tup xs, _, _, h, e => by
    cases h with
    | tup h1 h2 =>
      have e' : (toPyL g xs).map PyData.tuple = some _ := e
      cases q : toPyL g xs with
      | none => rw [q] at e'; cases e'
      | some ps =>
        rw [q] at e'
        cases e'
        exact .tup h1.sq (toPyL_dp s hg xs h2 q)
  | .lst xs, _, _, h, e => by
    cases h with
    | lst h1 h2 =>
      have e' : (toPyL g xs).map PyData.list = some _ := e
      cases q : toPyL g xs with
      | none => rw [q] at e'; cases e'
      | some ps =>
        rw [q] at e'
        cases e'
        exact .lst h1.sq (toPyL_dp s hg xs h2 q)
  | .loc n, _, _, h, e => by
    cases h with
    | loc h =>
      have e' : (g n).map PyData.list = some _ := e
      cases q : g n with
      | none => rw [q] at e'; cases e'
      | some ps =>
        rw [q] at e'
        cases e'
        obtain ⟨vs, h1, h2⟩ := hg n ps _ q h
        exact .lst (.inl (.inl h1)) h2
  | .ob _, _, _, _, e => by cases e
theorem toPyL_dp (s : RepS K H ι S) {g : Nat → Option (List PyData)} (hg : ∀ n ps a, g n = some ps → ι.num[n]? = some (some a) → ∃ vs, H a = some (.lst vs) ∧ DpAll K H vs ps) : ∀ (ds : List D) {vs : List V} {ps : List PyData}, DenL K H ι vs ds → toPyL g ds = some ps → DpAll K H vs ps
  | [], _, _, h, e => by cases h; cases e; exact .nil
  | d :: ds, _, _, h, e => by
    cases h with
    | cons h1 h2 =>
      have e' : ((toPy g d).bind fun y => (toPyL g ds).bind fun ys => some (y :: ys)) = some _ := e
      cases q : toPy g d with
      | none => rw [q] at e'; cases e'
      | some p =>
        cases q2 : toPyL g ds with
        | none => rw [q, q2] at e'; cases e'
        | some ps =>
          rw [q, q2] at e'
          cases e'
          exact .cons (toPy_dp s hg d h1 q) (toPyL_dp s hg ds h2 q2)
end
theorem optAll_dp {f : D → Option PyData} (hf : ∀ d v p, Den K H ι v d → f d = some p → Dp K H v p) : ∀ (ds : List D) {vs : List V} {ps : List PyData}, DenL K H ι vs ds → optAll f ds = some ps → DpAll K H vs ps
  | [], _, _, h, e => by cases h; cases e; exact .nil
  | d :: ds, _, _, h, e => by
    cases h with
    | cons h1 h2 =>
      have e' : ((f d).bind fun y => (optAll f ds).bind fun ys => some (y :: ys)) = some _ := e
      cases q : f d with
      | none => rw [q] at e'; cases e'
      | some p =>
        cases q2 : optAll f ds with
        | none => rw [q, q2] at e'; cases e'
        | some ps =>
          rw [q, q2] at e'
          cases e'
          exact .cons (hf _ _ _ h1 q) (optAll_dp hf ds h2 q2)
theorem flat_dp (s : RepS K H ι S) : ∀ (k : Nat) (d : D) (v : V) (p : PyData), Den K H ι v d → flat k S d = some p → Dp K H v p
  | 0, d, v, p, h, e => toPy_dp s (g := fun _ => none) (fun _ _ _ q => nomatch q) d h e
  | k + 1, d, v, p, h, e => by
    refine toPy_dp s (g := fun n => match S[n]? with
      | some (.lst xs) => optAll (flat k S) xs
      | _ => none) (fun n ps a q hn => ?_) d h e
    have q' : (match S[n]? with
      | some (.lst xs) => optAll (flat k S) xs
      | _ => none) = some ps := q
    cases e1 : S[n]? with
    | none => rw [e1] at q'; cases q'
    | some c =>
      rw [e1] at q'
      cases c with
      | lst xs =>
        obtain ⟨b, vs, x1, x2, x3⟩ := s.cell n _ _ hn e1
        cases x1
        exact ⟨vs, x2, optAll_dp (fun d v p a b => flat_dp s k d v p a b) xs x3 q'⟩
      | gone => cases q'
      | ins C fs => cases q'
      | exc y => cases q'
end

/-! ### == and != -/
/-- of flat things -/
def eqS : D → D → Option Bool
  | .int i, .int j => some (decide (i = j))
  | .str x, .str y => some (decide (x = y))
  | .bl a, .bl b => some (a == b)
  | .non, .non => some true
  | .non, .int _ | .int _, .non | .non, .bl _ | .bl _, .non | .non, .str _ | .str _, .non | .int _, .str _ | .str _, .int _ | .bl _, .str _ | .str _, .bl _ => some false
  | _, _ => none
def eqA (S : Store) (d e : D) : Option Bool := match eqS d e with
  | some b => some b
  | none => match flatS S d, flatS S e with
    | some p, some q => if (SeqAt.shaped p && SeqAt.shaped q) = true then some (PyData.eqv p q) else none
    | _, _ => none
def eqF (d e : D) (S : Store) : Res D := match eqA S d e with
  | some b => .ok (.bl b) S
  | none => .bad
def neF (d e : D) (S : Store) : Res D := match eqA S d e with
  | some b => .ok (.bl (!b)) S
  | none => .bad
section
variable {K : PySem.W.Frag} {H : Hp} {ι : Ix} {S : Store}
theorem eqS_ok {d e : D} {v w : V} {b : Bool} (hv : Den K H ι v d) (hw : Den K H ι w e) (h : eqS d e = some b) : scal v w = true ∧ decide (v = w) = b := by
  unfold eqS at h
  split at h <;> first
    | (cases hv; cases hw; cases h; exact ⟨rfl, by first | rfl | (simp; done) | (simp [V.int.injEq, V.str.injEq, V.bl.injEq]; done) | (apply decide_eq_decide.mpr; simp) | (rename_i a b; cases a <;> cases b <;> rfl)⟩)
    | cases h
theorem eqA_ok (s : RepS K H ι S) {d e : D} {v w : V} {b : Bool} (hv : Den K H ι v d) (hw : Den K H ι w e) (h : eqA S d e = some b) :
    (scal v w = true ∧ decide (v = w) = b) ∨ ∃ p q, Dp K H v p ∧ Dp K H w q ∧ SeqAt.shaped p = true ∧ SeqAt.shaped q = true ∧ PyData.eqv p q = b := by
  unfold eqA at h
  cases q : eqS d e with
  | some c =>
    rw [q] at h
    cases h
    exact .inl (eqS_ok hv hw q)
  | none =>
    rw [q] at h
    have h' : (match flatS S d, flatS S e with
      | some p, some q => if (SeqAt.shaped p && SeqAt.shaped q) = true then some (PyData.eqv p q) else none
      | _, _ => none) = some b := h
    cases q1 : flatS S d with
    | none => rw [q1] at h'; cases h'
    | some p1 =>
      cases q2 : flatS S e with
      | none => rw [q1, q2] at h'; cases h'
      | some p2 =>
        rw [q1, q2] at h'
        by_cases hs : (SeqAt.shaped p1 && SeqAt.shaped p2) = true
        · have h2 : some (PyData.eqv p1 p2) = some b := by simpa only [hs, if_true] using h'
          have hs' := Bool.and_eq_true_iff.mp hs
          exact .inr ⟨p1, p2, flat_dp s 5 d v p1 hv q1, flat_dp s 5 e w p2 hw q2, hs'.1, hs'.2, Option.some.inj h2⟩
        · have h2 : (if (SeqAt.shaped p1 && SeqAt.shaped p2) = true then some (PyData.eqv p1 p2) else none) = some b := h'
          rw [if_neg hs] at h2
          cases h2
end
abbrev rEqA (K : PySem.W.Frag) : R2 := fun x y H Q => rEq x y H Q ∨ rEqD K x y H Q
abbrev rNeA (K : PySem.W.Frag) : R2 := fun x y H Q => rNe x y H Q ∨ rNeD K x y H Q
section
variable {X : Cx} {K : PySem.W.Frag} {W : WX} {a b : Expr} {ma mb : EM} {pos : Pos}
theorem rd_eq : Op2R K (rEqA K) eqF := by
  intro E H ι S v w d e Q s hv hw f
  unfold eqF at f
  cases q : eqA S d e with
  | none => rw [q] at f; exact f.elim
  | some c =>
    rw [q] at f
    have f' := Fi.here (v := V.bl c) f s (.bl c)
    rcases eqA_ok s hv hw q with ⟨h1, h2⟩ | ⟨p1, p2, h1, h2, h3, h4, h5⟩
    · exact .inl ⟨h1, by rw [h2]; exact f'⟩
    · exact .inr ⟨p1, p2, h1, h2, h3, h4, by rw [h5]; exact f'⟩
theorem rd_ne : Op2R K (rNeA K) neF := by
  intro E H ι S v w d e Q s hv hw f
  unfold neF at f
  cases q : eqA S d e with
  | none => rw [q] at f; exact f.elim
  | some c =>
    rw [q] at f
    have f' := Fi.here (v := V.bl (!c)) f s (.bl _)
    rcases eqA_ok s hv hw q with ⟨h1, h2⟩ | ⟨p1, p2, h1, h2, h3, h4, h5⟩
    · exact .inl ⟨h1, by rw [h2]; exact f'⟩
    · exact .inr ⟨p1, p2, h1, h2, h3, h4, by rw [h5]; exact f'⟩
variable {k : Nat}
theorem pm_eq (hr : Room k X.A) (ha : PE X a (tE X.K W ma)) (hb : PE X b (tE X.K W mb)) : PE X (.Compare a [.Eq] [b] pos) (tE X.K W (mOp2 eqF ma mb)) := pm_cmp (op_eq.or (op_eqD hr.units)) rd_eq ha hb (nomark _)
theorem pm_ne (hr : Room k X.A) (ha : PE X a (tE X.K W ma)) (hb : PE X b (tE X.K W mb)) : PE X (.Compare a [.NotEq] [b] pos) (tE X.K W (mOp2 neF ma mb)) := pm_cmp (op_ne.or (op_neD hr.units)) rd_ne ha hb (nomark _)
theorem pmt_eq (hr : Room k X.A) (ha : PE X a (tE X.K W ma)) (hb : PE X b (tE X.K W mb)) : PT X (.Compare a [.Eq] [b] pos) (tT X.K W (bVal (mOp2 eqF ma mb))) := pmt_cmp (op_eq.or (op_eqD hr.units)) rd_eq ha hb (nomark _)
theorem pmt_ne (hr : Room k X.A) (ha : PE X a (tE X.K W ma)) (hb : PE X b (tE X.K W mb)) : PT X (.Compare a [.NotEq] [b] pos) (tT X.K W (bVal (mOp2 neF ma mb))) := pmt_cmp (op_ne.or (op_neD hr.units)) rd_ne ha hb (nomark _)

/-! ### in, not in, is None -/
def flatD : D → Bool
  | .non | .bl _ | .int _ | .str _ => true
  | _ => false
/-- == of flat values, as Python has it -/
def eqP : D → D → Bool
  | .non, .non => true
  | .bl a, .bl b => a == b
  | .bl a, .int b => (if a then 1 else 0) == b
  | .int a, .bl b => a == (if b then 1 else 0)
  | .int a, .int b => decide (a = b)
  | .str a, .str b => decide (a = b)
  | _, _ => false
def inA (S : Store) (d e : D) : Option Bool := match d, e with
  | .str x, .str y => some (!(Builtin.Str.occurrences y x 0 y.length 1).isEmpty)
  | d, e => match seqOf S e with
    | some xs => if (flatD d && xs.all flatD) = true then some (xs.any fun y => eqP y d) else none
    | none => none
def inF (d e : D) (S : Store) : Res D := match inA S d e with
  | some b => .ok (.bl b) S
  | none => .bad
def ninF (d e : D) (S : Store) : Res D := match inA S d e with
  | some b => .ok (.bl (!b)) S
  | none => .bad
theorem flatD_V {H : Hp} {ι : Ix} {v : V} {d : D} (h : Den K H ι v d) (f : flatD d = true) : flatV v = true := by
  cases d <;> first | (cases h; rfl) | cases f
theorem eqP_V {H : Hp} {ι : Ix} {v w : V} {d e : D} (h : Den K H ι v d) (g : Den K H ι w e) (f : flatD d = true) (f' : flatD e = true) : eqV v w = eqP d e := by
  cases d <;> cases e <;> first
    | (cases h; cases g; first | rfl | (simp only [eqV, eqP]; rw [Bool.eq_iff_iff]; simp))
    | cases f
    | cases f'
theorem allFlat_V {H : Hp} {ι : Ix} : ∀ {xs : List D} {vs : List V}, DenL K H ι vs xs → xs.all flatD = true → vs.all flatV = true
  | [], _, h, _ => by cases h; rfl
  | x :: xs, _, h, f => by
    cases h with
    | cons h1 h2 =>
      have f' : flatD x = true ∧ xs.all flatD = true := by simpa using f
      simp only [List.all_cons, flatD_V h1 f'.1, allFlat_V h2 f'.2, Bool.and_self]
theorem any_V {H : Hp} {ι : Ix} {v : V} {d : D} (hd : Den K H ι v d) (fd : flatD d = true) : ∀ {xs : List D} {vs : List V}, DenL K H ι vs xs → xs.all flatD = true → inV v vs = xs.any fun y => eqP y d
  | [], _, h, _ => by cases h; rfl
  | x :: xs, _, h, f => by
    cases h with
    | cons h1 h2 =>
      have f' : flatD x = true ∧ xs.all flatD = true := by simpa using f
      have ih := any_V hd fd h2 f'.2
      unfold inV at ih ⊢
      rw [List.any_cons, List.any_cons, ih, eqP_V h1 hd f'.1 fd]
abbrev rInA (K : PySem.W.Frag) : R2 := fun x y H Q => (∃ i j, x = .str i ∧ y = .str j ∧ Q (.bl (!(Builtin.Str.occurrences j i 0 j.length 1).isEmpty)) H) ∨ rIn K false x y H Q
abbrev rNinA (K : PySem.W.Frag) : R2 := fun x y H Q => (∃ i j, x = .str i ∧ y = .str j ∧ Q (.bl (!(!(Builtin.Str.occurrences j i 0 j.length 1).isEmpty))) H) ∨ rIn K true x y H Q
theorem inA_ok {H : Hp} {ι : Ix} {S : Store} (s : RepS K H ι S) {v w : V} {d e : D} {c : Bool} (hv : Den K H ι v d) (hw : Den K H ι w e) (h : inA S d e = some c) :
    (∃ x y, v = .str x ∧ w = .str y ∧ (!(Builtin.Str.occurrences y x 0 y.length 1).isEmpty) = c) ∨ ∃ p vs, w = .ref p ∧ (SqL K H p vs ∨ SqT K H p vs) ∧ flatV v = true ∧ vs.all flatV = true ∧ inV v vs = c := by
  have key : ∀ (h : (match seqOf S e with
      | some xs => if (flatD d && xs.all flatD) = true then some (xs.any fun y => eqP y d) else none
      | none => none) = some c), ∃ p vs, w = .ref p ∧ (SqL K H p vs ∨ SqT K H p vs) ∧ flatV v = true ∧ vs.all flatV = true ∧ inV v vs = c := fun h => by
    cases q : seqOf S e with
    | none => rw [q] at h; cases h
    | some xs =>
      rw [q] at h
      obtain ⟨a, vs, rfl, h1, h2⟩ := seq_den s hw q
      by_cases hs : (flatD d && xs.all flatD) = true
      · have h3 : some (xs.any fun y => eqP y d) = some c := by simpa only [hs, if_true] using h
        obtain ⟨f1, f2⟩ := Bool.and_eq_true_iff.mp hs
        exact ⟨a, vs, rfl, h1, flatD_V hv f1, allFlat_V h2 f2, by rw [any_V hv f1 h2 f2]; exact Option.some.inj h3⟩
      · have h3 : (if (flatD d && xs.all flatD) = true then some (xs.any fun y => eqP y d) else none) = some c := h
        rw [if_neg hs] at h3
        cases h3
  unfold inA at h
  split at h
  · cases hv; cases hw
    exact .inl ⟨_, _, rfl, rfl, Option.some.inj h⟩
  · exact .inr (key h)
theorem rd_in : Op2R K (rInA K) inF := by
  intro E H ι S v w d e Q s hv hw f
  unfold inF at f
  cases q : inA S d e with
  | none => rw [q] at f; exact f.elim
  | some c =>
    rw [q] at f
    have f' := Fi.here (v := V.bl c) f s (.bl c)
    rcases inA_ok s hv hw q with ⟨x, y, rfl, rfl, h⟩ | ⟨p, vs, rfl, h1, h2, h3, h4⟩
    · exact .inl ⟨x, y, rfl, rfl, by rw [h]; exact f'⟩
    · exact .inr ⟨p, vs, rfl, h1, h2, h3, by show Q (.bl (inV v vs)) H; rw [h4]; exact f'⟩
theorem rd_nin : Op2R K (rNinA K) ninF := by
  intro E H ι S v w d e Q s hv hw f
  unfold ninF at f
  cases q : inA S d e with
  | none => rw [q] at f; exact f.elim
  | some c =>
    rw [q] at f
    have f' := Fi.here (v := V.bl (!c)) f s (.bl _)
    rcases inA_ok s hv hw q with ⟨x, y, rfl, rfl, h⟩ | ⟨p, vs, rfl, h1, h2, h3, h4⟩
    · exact .inl ⟨x, y, rfl, rfl, by rw [h]; exact f'⟩
    · exact .inr ⟨p, vs, rfl, h1, h2, h3, by show Q (.bl (!inV v vs)) H; rw [h4]; exact f'⟩
theorem pm_in (ha : PE X a (tE X.K W ma)) (hb : PE X b (tE X.K W mb)) (hm : behindInMarks .In b = false := by rfl) : PE X (.Compare a [.In] [b] pos) (tE X.K W (mOp2 inF ma mb)) := pm_cmp (op_in_str.or op_in_seq) rd_in ha hb hm
theorem pm_nin (ha : PE X a (tE X.K W ma)) (hb : PE X b (tE X.K W mb)) (hm : behindInMarks .NotIn b = false := by rfl) : PE X (.Compare a [.NotIn] [b] pos) (tE X.K W (mOp2 ninF ma mb)) := pm_cmp (op_notIn_str.or op_notIn_seq) rd_nin ha hb hm
theorem pmt_in (ha : PE X a (tE X.K W ma)) (hb : PE X b (tE X.K W mb)) (hm : behindInMarks .In b = false := by rfl) : PT X (.Compare a [.In] [b] pos) (tT X.K W (bVal (mOp2 inF ma mb))) := pmt_cmp (op_in_str.or op_in_seq) rd_in ha hb hm
theorem pmt_nin (ha : PE X a (tE X.K W ma)) (hb : PE X b (tE X.K W mb)) (hm : behindInMarks .NotIn b = false := by rfl) : PT X (.Compare a [.NotIn] [b] pos) (tT X.K W (bVal (mOp2 ninF ma mb))) := pmt_cmp (op_notIn_str.or op_notIn_seq) rd_nin ha hb hm
/-- x is None -/
def isNF : D → D → Store → Res D
  | d, .non, S => .ok (.bl (decide (d = .non))) S
  | _, _, _ => .bad
def isNNF : D → D → Store → Res D
  | d, .non, S => .ok (.bl (!decide (d = .non))) S
  | _, _, _ => .bad
theorem non_dec {H : Hp} {ι : Ix} {v : V} {d : D} (h : Den K H ι v d) : decide (v = .non) = decide (d = .non) := by
  cases d <;> cases h <;> simp
theorem rd_isN : Op2R K (fun x y H Q => y = .non ∧ Q (.bl (decide (x = .non))) H) isNF := by
  intro E H ι S v w d e Q s hv hw f
  unfold isNF at f
  split at f
  · cases hw
    exact ⟨rfl, by rw [non_dec hv]; exact f.here s (.bl _)⟩
  · exact f.elim
theorem rd_isNN : Op2R K (fun x y H Q => y = .non ∧ Q (.bl (!decide (x = .non))) H) isNNF := by
  intro E H ι S v w d e Q s hv hw f
  unfold isNNF at f
  split at f
  · cases hw
    exact ⟨rfl, by rw [non_dec hv]; exact f.here s (.bl _)⟩
  · exact f.elim
theorem pm_isN (ha : PE X a (tE X.K W ma)) (hb : PE X b (tE X.K W mb)) : PE X (.Compare a [.Is] [b] pos) (tE X.K W (mOp2 isNF ma mb)) := pm_cmp op_isN rd_isN ha hb (nomark _)
theorem pm_isNN (ha : PE X a (tE X.K W ma)) (hb : PE X b (tE X.K W mb)) : PE X (.Compare a [.IsNot] [b] pos) (tE X.K W (mOp2 isNNF ma mb)) := pm_cmp op_notN rd_isNN ha hb (nomark _)
theorem pmt_isN (ha : PE X a (tE X.K W ma)) (hb : PE X b (tE X.K W mb)) : PT X (.Compare a [.Is] [b] pos) (tT X.K W (bVal (mOp2 isNF ma mb))) := pmt_cmp op_isN rd_isN ha hb (nomark _)
theorem pmt_isNN (ha : PE X a (tE X.K W ma)) (hb : PE X b (tE X.K W mb)) : PT X (.Compare a [.IsNot] [b] pos) (tT X.K W (bVal (mOp2 isNNF ma mb))) := pmt_cmp op_notN rd_isNN ha hb (nomark _)
end
end MD

set_option maxHeartbeats 4000000
namespace MD
open PySem PySem.Spec PyProof.Rows L2

/-! ### promises, where no repr is under way (the layer's own promise does not tell that, and repr of a list asks it) -/
/-- room for k calls, and no guard -/
structure Rm (k : Nat) (A : Around) : Prop where
  room : Room k A
  grd : A.guards = some []
theorem Rm.mono {j k : Nat} {A : Around} (r : Rm k A) (h : j ≤ k) : Rm j A := ⟨r.room.mono h, r.grd⟩
structure FnG (P : Program) (w : World) (K : PySem.W.Frag) (mg : Str → Option Value) (base : Heap) (k : Nat) (f : Addr) (fd : FuncData) (ps : List Str) (sp : Sp) : Prop where
  len : ∀ vs H Q E, sp vs H Q E → vs.length = ps.length
  run : ∀ (A : Around) (outer : List PySem.Env) (s : Shared) (H : Hp) (args : Args) (us : List Value) (vs : List V) (Q : VK) (E : XK),
    Rm k A → Env0 P w K mg base A outer s H → BindsTo s fd args (ps.zip us) → Vals vs us → sp vs H Q E →
      codeAny (model P w) A (.call (.ref f) args) (CR (L2.CX P w) outer P w H s Q E) s
section
variable {P : Program} {w : World} {K : PySem.W.Frag} {mg : Str → Option Value} {base : Heap} {j k : Nat} {f : Addr} {fd : FuncData} {ps : List Str} {sp sp' : Sp}
theorem FnG.mono (F : FnG P w K mg base j f fd ps sp) (h : j ≤ k) : FnG P w K mg base k f fd ps sp :=
  ⟨F.len, fun A outer s H args us vs Q E hr => F.run A outer s H args us vs Q E (hr.mono h)⟩
theorem FnG.imp (F : FnG P w K mg base k f fd ps sp) (h : ∀ vs H Q E, sp' vs H Q E → sp vs H Q E) : FnG P w K mg base k f fd ps sp' :=
  ⟨fun vs H Q E q => F.len vs H Q E (h vs H Q E q), fun A outer s H args us vs Q E hr he hb hv q => F.run A outer s H args us vs Q E hr he hb hv (h vs H Q E q)⟩
end
/-- the context of a def's body that may raise -/
abbrev cxB (P : Program) (w : World) (K : PySem.W.Frag) (mg : Str → Option Value) (base : Heap) (N : List Str) (qual : Str) (scope : Scope) (f : Addr) (cd : Value) (A : Around) (outer : List PySem.Env) (s : Shared) (H : Hp) (E : XK) : Cx :=
  cxOf (L2.CX P w) P w K mg base N qual scope f cd A outer s H E
/-- a def by its body -/
theorem fnG_of {P : Program} {w : World} {K : PySem.W.Frag} {mg : Str → Option Value} {base : Heap} {k : Nat} {f : Addr} {x qual : Str} {params : Arguments} {body : List Stmt} {scope : Scope} {dvs : List V} {kws : List (Str × V)} {fd : FuncData} {N ps : List Str} {sp : Sp}
    (F : FunD K x qual params body scope dvs kws f fd) (Sc : FnScope N ps scope) (len : ∀ vs H Q E, sp vs H Q E → vs.length = ps.length)
    (hbody : ∀ (cdv : Value) (A : Around) (outer : List PySem.Env) (s : Shared) (H : Hp) (vs : List V) (Q : VK) (E : XK), Rm k (cxB P w K mg base N qual scope f cdv A outer s H E).A → sp vs H Q E →
      ∃ t, PSs (cxB P w K mg base N qual scope f cdv A outer s H E) body t ∧ t { nx := fun _ H' => Q .non H', rt := Q } (start N vs) H) :
    FnG P w K mg base (k + 1) f fd ps sp := by
  obtain ⟨oc, od, dV, kV, doc, pm, an, cdv, ct, osl, rfl, lk, hcd, _, _⟩ := F.ex
  refine ⟨len, fun A outer s H args us vs Q E hr e0 hb r hsp => ?_⟩
  have up : ∀ b o, base.get? b = some o → s.heap.get? b = some o := fun b o e => (e0.bs b o e).1
  have inS : K.In s.heap := e0.mod.kin.keeps up
  refine codeAny_call_function hr.room.depth (inS _ _ lk) rfl Sc.co Sc.gen rfl (PySem.W.codeRec_of inS hcd) (hb _ _ _ _ ?_)
  refine wpAny_newFunctionEnv_cells Sc.kind (fun p hp => ?_) fun env he s1 ic => ?_
  · rcases Sc.par p.1 (List.of_mem_zip (a := p.1) (b := p.2) hp).1 with z | z
    · exact .inl z
    · exact .inr ⟨z, PySem.W.cellsFrom_some _ _ _ (.inl z)⟩
  · subst he
    refine ⟨(e0.mod.nolimit.keeps up).keeps ic.toInCall.keep, codeAny_func ?_⟩
    obtain ⟨t, ht, hq⟩ := hbody cdv A outer s H vs Q E ⟨hr.room.deeper _, hr.grd⟩ hsp
    have J := inv_start (CX := L2.CX P w) (E := E) Sc hr.room.hd e0 (len _ _ _ _ hsp) r ic
    refine wpAny_mono (ht.run [] s1 (start N vs) H _ J hq) (fun fl s' hs => ?_) fun e s' z => z
    cases fl with
    | next =>
      obtain ⟨σ', H', J', q⟩ := hs
      exact ⟨V.non, H', J'.os, J'.bare, J'.base, J'.hok, rfl, q⟩
    | ret u =>
      obtain ⟨v, σ', H', J', rv, q⟩ := hs
      exact ⟨v, H', J'.os, J'.bare, J'.base, J'.hok, rv, q⟩
    | brk => exact hs.elim fun _ z => z.elim fun _ z => z.2.elim
    | cont => exact hs.elim fun _ z => z.elim fun _ z => z.2.elim

section
variable {X : Cx} {k : Nat} {f C : Addr} {fd : FuncData} {ps : List Str} {sp : Sp} {dvs : List V} {ds : List Value} {E : L2.St → XK} {x m : Str} {p pos apos : Pos} {e o : Expr} {es : List Expr} {ta : TE} {t : TA} {W : WX}
/-- what a callee lets out is taken, at the slots as they stand -/
abbrev PassAt (X : Cx) (W : WX) : Prop := ∀ (pins : List (Addr × Obj)) (σ : L2.St) (H : Hp) (s : Shared) (e : Value) (s' : Shared), Inv X pins σ H s → L2.CX X.prog X.w X.stack H s (fun cls dd H' => W cls dd σ H') e s' → X.xe e s'
theorem passAtG (tk : Takes X W) : PassAt X W := fun _ _ _ _ e s' I c => tk e s' (XE.of_call I (fun _ _ _ z => z) c)
theorem runG {pins : List (Addr × Obj)} {σ : L2.St} {H : Hp} {s : Shared} {Q : VK} {args : Args} {us : List Value} {vs : List V} (F : FnG X.prog X.w X.K X.mg X.base k f fd ps sp) (hr : Rm k X.A) (hx : PassAt X W)
    (I : Inv X pins σ H s) (hb : BindsTo s fd args (ps.zip us)) (r : Vals vs us) (h : sp vs H Q fun cls dd H' => W cls dd σ H') : codeAny (model X.prog X.w) X.A (.call (.ref f) args) (fun r s' => match r with
      | .ok (.ret u) => EP X pins σ Q u s'
      | .ok _ => False
      | .error e => X.xe e s') s := by
  refine codeAny_mono (F.run X.A X.stack s H args us vs Q _ hr I.env0 hb r h) fun r s' hq => ?_
  cases r with
  | error e => exact hx pins σ H s e s' I hq
  | ok fl =>
    cases fl with
    | ret u => exact I.after hq
    | next | brk | cont => exact hq.elim
theorem callG {pins : List (Addr × Obj)} {σ : L2.St} {H : Hp} {s : Shared} {Q : VK} {us : List Value} {vs : List V} (F : FnG X.prog X.w X.K X.mg X.base k f fd ps sp) (hr : Rm k X.A) (hb : Binds X.K fd ps ds) (hd : Vals dvs ds) (hx : PassAt X W)
    (I : Inv X pins σ H s) (r : Vals vs us) (h : sp (vs ++ dvs) H Q fun cls dd H' => W cls dd σ H') : wpAny (model X.prog X.w) X.A (call (.ref f) us) (EP X pins σ Q) X.xe s := by
  have rr := r.append hd
  have hb' := hb s us I.kIn (by rw [← rr.length]; exact F.len _ _ _ _ h)
  refine wpAny_call (codeAny_mono (runG F hr hx I hb' rr h) fun q s' z => ?_)
  cases q with
  | error e => exact z
  | ok fl =>
    cases fl with
    | ret u => exact z
    | next | brk | cont => exact z.elim
/-- f(e, ..) -/
def tCallG (sp : Sp) (dvs : List V) (W : WX) (t : TA) : TE := fun σ H Q => t σ H fun vs H1 => sp (vs ++ dvs) H1 Q fun cls dd H' => W cls dd σ H'
theorem pe_callG (F : FnG X.prog X.w X.K X.mg X.base k f fd ps sp) (hr : Rm k X.A) (hg : Gl X x) (hm : X.mg x = some (.ref f)) (hk : PySem.W.keepIn X.K (.ref f) = true) (hb : Binds X.K fd ps ds) (hd : Vals dvs ds) (hx : PassAt X W)
    (ha : PA X (e :: es) t) (hdb : (x == ("__debug__" : Str)) = false := by decide) (he : starEach (e :: es) X.env = (false, eval e X.env) :: starEach es X.env := by rfl) (hpl : (backTo pos (starEach es X.env)).any (·.1) = false := by rfl) :
    PE X (.Call (.Name x p) (e :: es) [] pos) (tCallG sp dvs W t) := by
  constructor
  intro pins s σ H Q I h
  refine wpAny_Call_Name_kw (ld_glob I hg hm (PySem.W.callWith_K (h₀ := X.base) I.ok.mod.kin hk ?_ he hpl) hdb)
  exact thn (ha.run pos pins s σ H _ I h) fun us s1 ⟨vs, H1, I1, r, q⟩ => ⟨I1.kIn, callG F hr hb hd hx I1 r q⟩
theorem pe_callG0 (F : FnG X.prog X.w X.K X.mg X.base k f fd ps sp) (hr : Rm k X.A) (hg : Gl X x) (hm : X.mg x = some (.ref f)) (hk : PySem.W.keepIn X.K (.ref f) = true) (hb : Binds X.K fd ps ds) (hd : Vals dvs ds) (hx : PassAt X W)
    (hdb : (x == ("__debug__" : Str)) = false := by decide) : PE X (.Call (.Name x p) [] [] pos) (tCallG sp dvs W tNil) := by
  constructor
  intro pins s σ H Q I h
  exact wpAny_Call_Name_kw (ld_glob I hg hm (PySem.W.callWith_K0 I.kIn hk (callG (us := []) F hr hb hd hx I .nil h)) hdb)
end

/-! ### a def as a function -/
/-- the promise: n arguments, the end G tells -/
def spM (K : PySem.W.Frag) (n : Nat) (G : FM) : Sp := fun vs H Q E => ∃ ds S ι, vs.length = n ∧ RepS K H ι S ∧ DenL K H ι vs ds ∧ Fi K (Den K) E H ι (G ds S) Q
theorem spM.len {K : PySem.W.Frag} {n : Nat} {G : FM} {vs : List V} {H : Hp} {Q : VK} {E : XK} (h : spM K n G vs H Q E) : vs.length = n := by
  obtain ⟨_, _, _, h, _⟩ := h
  exact h
/-- a def as its callers see it: x is its name in the module -/
structure Cal (P : Program) (w : World) (K : PySem.W.Frag) (mg : Str → Option Value) (base : Heap) (k : Nat) (x : Str) (n : Nat) (G : FM) : Prop where
  ex : ∃ (f : Addr) (fd : FuncData) (ps : List Str), ps.length = n ∧ FnG P w K mg base k f fd ps (spM K n G) ∧ mg x = some (.ref f) ∧ PySem.W.keepIn K (.ref f) = true ∧ Binds K fd ps []
/-- .. with as many arguments as it has -/
@[simp] def argN (n : Nat) (G : FM) : FM := fun ds S => if ds.length = n then G ds S else .bad
section
variable {X : Cx} {W : WX} {k n : Nat} {G : FM} {x : Str} {p pos : Pos} {e : Expr} {es : List Expr} {t : AM}
theorem rd_call {K : PySem.W.Frag} {σ : L2.St} {H : Hp} {Q : VK} (h : tE K W (mApp (argN n G) t) σ H Q) : tCallG (spM K n G) [] W (tA K W t) σ H Q := by
  obtain ⟨ρ, S, ι, he, hs, h⟩ := tGen.bind (R := DenL K) (k := fun _ xs S1 => argN n G xs S1) h
  refine ⟨ρ, S, ι, he, hs, h.mono fun vs H1 ⟨ρ1, ι1, xs, S1, e1, s1, d1, f⟩ => ?_⟩
  unfold argN at f
  split at f
  · rename_i hl
    rw [List.append_nil]
    exact ⟨xs, S1, ι1, by rw [d1.length]; exact hl, s1, d1, f⟩
  · exact f.elim
theorem pm_call (c : Cal X.prog X.w X.K X.mg X.base k x n G) (hr : Rm k X.A) (tk : Takes X W) (ha : PA X (e :: es) (tA X.K W t)) (hg : Gl X x := by rfl) (hdb : (x == ("__debug__" : Str)) = false := by decide)
    (he : starEach (e :: es) X.env = (false, eval e X.env) :: starEach es X.env := by rfl) (hpl : (backTo pos (starEach es X.env)).any (·.1) = false := by rfl) : PE X (.Call (.Name x p) (e :: es) [] pos) (tE X.K W (mApp (argN n G) t)) := by
  obtain ⟨f, fd, ps, _, F, hm, hk, hb⟩ := c.ex
  exact pe_weak (pe_callG F hr hg hm hk hb .nil (passAtG tk) ha hdb he hpl) fun _ _ _ h => rd_call h
end
end MD

set_option maxHeartbeats 4000000
namespace MD
open PySem PySem.Spec PyProof.Rows L2

/-! ### calls of built-in functions and types -/
section
variable {X : Cx} {W : WX} {x : Str} {p pos : Pos} {e : Expr} {es : List Expr} {t : AM} {id T : String} {r : List V → Hp → VK → Prop} {g : List D → Store → Res D}
theorem rd_app {K : PySem.W.Frag} (hg : AppR K r g) {σ : L2.St} {H : Hp} {Q : VK} (h : tE K W (mApp g t) σ H Q) : tCB r (tA K W t) σ H Q := by
  obtain ⟨ρ, S, ι, he, hs, h⟩ := tGen.bind (R := DenL K) (k := fun _ xs S1 => g xs S1) h
  exact ⟨ρ, S, ι, he, hs, h.mono fun vs H1 ⟨ρ1, ι1, xs, S1, e1, s1, d1, f⟩ => hg _ H1 ι1 S1 vs xs Q s1 d1 f⟩
theorem pm_bi (hc : CallR X (.builtin id) r) (hg : AppR X.K r g) (hm : X.mg x = none) (hv : bootBuiltins x = some (.builtin id)) (ha : PA X (e :: es) (tA X.K W t)) (gl : Gl X x := by rfl) (hn : x ≠ "__name__" := by decide) (hdb : (x == ("__debug__" : Str)) = false := by decide)
    (he : starEach (e :: es) X.env = (false, eval e X.env) :: starEach es X.env := by rfl) (hpl : (backTo pos (starEach es X.env)).any (·.1) = false := by rfl) : PE X (.Call (.Name x p) (e :: es) [] pos) (tE X.K W (mApp g t)) :=
  pe_weak (pe_callB hc gl hm hv ha hn hdb he hpl) fun _ _ _ h => rd_app hg h
theorem pm_ty (hc : CallR X (.type T) r) (hg : AppR X.K r g) (hm : X.mg x = none) (hv : bootBuiltins x = some (.type T)) (ha : PA X (e :: es) (tA X.K W t)) (gl : Gl X x := by rfl) (hn : x ≠ "__name__" := by decide) (hdb : (x == ("__debug__" : Str)) = false := by decide)
    (he : starEach (e :: es) X.env = (false, eval e X.env) :: starEach es X.env := by rfl) (hpl : (backTo pos (starEach es X.env)).any (·.1) = false := by rfl) : PE X (.Call (.Name x p) (e :: es) [] pos) (tE X.K W (mApp g t)) :=
  pe_weak (pe_callTy hc gl hm hv ha hn hdb he hpl) fun _ _ _ h => rd_app hg h
end

section
variable {X : Cx} {K : PySem.W.Frag}
/-- functions of one argument that is looked at -/
theorem appR_one {r : List V → Hp → VK → Prop} {f : D → Store → Res D} (h : ∀ (E : XK) (H : Hp) (ι : Ix) (S : Store) (v : V) (d : D) (Q : VK), RepS K H ι S → Den K H ι v d → Fi K (Den K) E H ι (f d S) Q → r [v] H Q) :
    AppR K r (fun ds S => match ds with
      | [d] => f d S
      | _ => .bad) := fun E H ι S vs ds Q s hd hf => by
  match ds, hd, hf with
  | [d], hd, hf =>
    obtain ⟨v, rfl, h1⟩ := hd.one
    exact h E H ι S v d Q s h1 hf
  | [], _, hf => exact hf.elim
  | _ :: _ :: _, _, hf => exact hf.elim
@[simp] def one (f : D → Store → Res D) : List D → Store → Res D := fun ds S => match ds with
  | [d] => f d S
  | _ => .bad
@[simp] def two (f : D → D → Store → Res D) : List D → Store → Res D := fun ds S => match ds with
  | [d, e] => f d e S
  | _ => .bad
theorem appR_two {r : List V → Hp → VK → Prop} {f : D → D → Store → Res D} (h : ∀ (E : XK) (H : Hp) (ι : Ix) (S : Store) (v w : V) (d e : D) (Q : VK), RepS K H ι S → Den K H ι v d → Den K H ι w e → Fi K (Den K) E H ι (f d e S) Q → r [v, w] H Q) :
    AppR K r (two f) := fun E H ι S vs ds Q s hd hf => by
  match ds, hd, hf with
  | [d, e], hd, hf =>
    obtain ⟨v, w, rfl, h1, h2⟩ := hd.two
    exact h E H ι S v w d e Q s h1 h2 hf
  | [], _, hf => exact hf.elim
  | [_], _, hf => exact hf.elim
  | _ :: _ :: _ :: _, _, hf => exact hf.elim

/-! len -/
def lenF : D → Store → Res D := fun d S => match d with
  | .str z => if z.length ≤ sizeLine then .ok (.int z.length) S else .bad
  | d => match seqOf S d with
    | some xs => .ok (.int xs.length) S
    | none => .bad
theorem ap_len : AppR K (fun xs H Q => (∃ p ys, xs = [.ref p] ∧ (SqL K H p ys ∨ SqT K H p ys) ∧ Q (.int ys.length) H) ∨ ∃ z, xs = [.str z] ∧ z.length ≤ sizeLine ∧ Q (.int z.length) H) (one lenF) :=
  appR_one fun E H ι S v d Q s h hf => by
    unfold lenF at hf
    split at hf
    · rename_i z
      cases h
      split at hf
      · exact .inr ⟨_, rfl, by assumption, hf.here s (.int _)⟩
      · exact hf.elim
    · split at hf
      · rename_i xs e
        obtain ⟨a, vs, rfl, h1, h2⟩ := seq_den s h e
        exact .inl ⟨a, vs, rfl, h1, by rw [h2.length]; exact hf.here s (.int _)⟩
      · exact hf.elim
/-! abs, max, min of two, int, str -/
def absF : D → Store → Res D := fun d S => match d with
  | .int i => .ok (.int (if i < 0 then -i else i)) S
  | _ => .bad
theorem ap_abs : AppR K (fun xs H Q => ∃ i, xs = [.int i] ∧ Q (.int (if i < 0 then -i else i)) H) (one absF) :=
  appR_one fun E H ι S v d Q s h hf => by
    unfold absF at hf
    split at hf
    · cases h; exact ⟨_, rfl, hf.here s (.int _)⟩
    · exact hf.elim
def max2F : D → D → Store → Res D := fun d e S => match d, e with
  | .int i, .int j => .ok (.int (if j > i then j else i)) S
  | _, _ => .bad
def min2F : D → D → Store → Res D := fun d e S => match d, e with
  | .int i, .int j => .ok (.int (if j < i then j else i)) S
  | _, _ => .bad
theorem ap_max2 : AppR K (fun xs H Q => ∃ i j, xs = [.int i, .int j] ∧ Q (.int (if j > i then j else i)) H) (two max2F) :=
  appR_two fun E H ι S v w d e Q s h1 h2 hf => by
    unfold max2F at hf
    split at hf
    · cases h1; cases h2; exact ⟨_, _, rfl, hf.here s (.int _)⟩
    · exact hf.elim
theorem ap_min2 : AppR K (fun xs H Q => ∃ i j, xs = [.int i, .int j] ∧ Q (.int (if j < i then j else i)) H) (two min2F) :=
  appR_two fun E H ι S v w d e Q s h1 h2 hf => by
    unfold min2F at hf
    split at hf
    · cases h1; cases h2; exact ⟨_, _, rfl, hf.here s (.int _)⟩
    · exact hf.elim
def intF : D → Store → Res D := fun d S => match d with
  | .int i => .ok (.int i) S
  | .bl k => .ok (.int (if k then 1 else 0)) S
  | .str a => match PySem.intText? a with
    | some n => if a.length ≤ 640 then .ok (.int n) S else .bad
    | none => .bad
  | _ => .bad
abbrev rInt : List V → Hp → VK → Prop := fun xs H Q => ((∃ i, xs = [.int i] ∧ Q (.int i) H) ∨ ∃ k, xs = [.bl k] ∧ Q (.int (if k then 1 else 0)) H) ∨ ∃ a n, xs = [.str a] ∧ PySem.intText? a = some n ∧ a.length ≤ 640 ∧ Q (.int n) H
theorem ap_int : AppR K rInt (one intF) :=
  appR_one fun E H ι S v d Q s h hf => by
    unfold intF at hf
    split at hf
    · cases h; exact .inl (.inl ⟨_, rfl, hf.here s (.int _)⟩)
    · cases h; exact .inl (.inr ⟨_, rfl, hf.here s (.int _)⟩)
    · cases h
      split at hf
      · split at hf
        · exact .inr ⟨_, _, rfl, by assumption, by assumption, hf.here s (.int _)⟩
        · exact hf.elim
      · exact hf.elim
    · exact hf.elim
def strF : D → Store → Res D := fun d S => match d with
  | .int i => if i.natAbs.log2 < 1920 then .ok (.str (toString i)) S else .bad
  | .str a => .ok (.str a) S
  | _ => .bad
abbrev rStr : List V → Hp → VK → Prop := fun xs H Q => (∃ i : Int, xs = [.int i] ∧ i.natAbs.log2 < 1920 ∧ Q (.str (toString i)) H) ∨ ∃ a, xs = [.str a] ∧ Q (.str a) H
theorem ap_str : AppR K rStr (one strF) :=
  appR_one fun E H ι S v d Q s h hf => by
    unfold strF at hf
    split at hf
    · cases h
      split at hf
      · exact .inl ⟨_, rfl, by assumption, hf.here s (.str _)⟩
      · exact hf.elim
    · cases h; exact .inr ⟨_, rfl, hf.here s (.str _)⟩
    · exact hf.elim
/-! list, tuple of a list or tuple -/
theorem fi_tup {E : XK} {H : Hp} {ι : Ix} {S : Store} {Q : VK} {xs : List D} {vs : List V} (s : RepS K H ι S) (h : DenL K H ι vs xs) (f : Fi K (Den K) E H ι (.ok (.tup xs) S) Q) : ∀ p, H p = none → Q (.ref p) (upd H p (.tup vs)) :=
  fun p hp => f _ _ _ (Ext.laid hp) (s.laid hp) (den_new_tup s hp h)
def listF (c : Bool) : D → Store → Res D := fun d S => match seqOf S d with
  | some xs => newL c xs S
  | none => .bad
def tupleF : D → Store → Res D := fun d S => match seqOf S d with
  | some xs => .ok (.tup xs) S
  | none => .bad
theorem ap_list (c : Bool) : AppR K (fun xs H Q => ∃ p ys, xs = [.ref p] ∧ (SqL K H p ys ∨ SqT K H p ys) ∧ ∀ l, H l = none → Q (.ref l) (upd H l (.lst ys))) (one (listF c)) :=
  appR_one fun E H ι S v d Q s h hf => by
    unfold listF at hf
    split at hf
    · rename_i xs e
      obtain ⟨a, vs, rfl, h1, h2⟩ := seq_den s h e
      exact ⟨a, vs, rfl, h1, (fi_newL s h2 hf).2⟩
    · exact hf.elim
theorem ap_tuple : AppR K (fun xs H Q => ∃ p ys, xs = [.ref p] ∧ ((SqL K H p ys ∧ ∀ l, H l = none → Q (.ref l) (upd H l (.tup ys))) ∨ (SqT K H p ys ∧ Q (.ref p) H))) (one tupleF) :=
  appR_one fun E H ι S v d Q s h hf => by
    unfold tupleF at hf
    split at hf
    · rename_i xs e
      by_cases ht : d = .tup xs
      · subst ht
        cases h with
        | @tup a vs _ h1 h2 => exact ⟨a, vs, rfl, .inr ⟨h1.sq, hf.here s (.tup h1 h2)⟩⟩
      · have e' : lstOf S d = some xs := by
          cases d with
          | tup ys => exact absurd (by cases e; rfl) ht
          | _ => exact e
        obtain ⟨a, vs, rfl, h1, h2, _⟩ := lst_den s h e'
        exact ⟨a, vs, rfl, .inl ⟨.inl h1, fi_tup s h2 hf⟩⟩
    · exact hf.elim
/-! lists of ints, of truths, of texts -/
def intsD : List D → Option (List Int)
  | [] => some []
  | .int i :: r => (intsD r).map (i :: ·)
  | _ :: _ => none
def blsD : List D → Option (List Bool)
  | [] => some []
  | .bl i :: r => (blsD r).map (i :: ·)
  | _ :: _ => none
def strsD : List D → Option (List Str)
  | [] => some []
  | .str i :: r => (strsD r).map (i :: ·)
  | _ :: _ => none
theorem intsD_den {H : Hp} {ι : Ix} : ∀ {ds : List D} {vs : List V} {ns : List Int}, DenL K H ι vs ds → intsD ds = some ns → vs = ns.map V.int
  | [], _, _, h, e => by cases h; cases e; rfl
  | d :: ds, _, _, h, e => by
    cases h with
    | cons h1 h2 =>
      cases d with
      | int i =>
        cases h1
        cases q : intsD ds with
        | none => simp [intsD, q] at e
        | some ms =>
          simp only [intsD, q, Option.map_some, Option.some.injEq] at e
          rw [← e, intsD_den h2 q]; rfl
      | _ => cases e
theorem blsD_den {H : Hp} {ι : Ix} : ∀ {ds : List D} {vs : List V} {ns : List Bool}, DenL K H ι vs ds → blsD ds = some ns → vs = ns.map V.bl
  | [], _, _, h, e => by cases h; cases e; rfl
  | d :: ds, _, _, h, e => by
    cases h with
    | cons h1 h2 =>
      cases d with
      | bl i =>
        cases h1
        cases q : blsD ds with
        | none => simp [blsD, q] at e
        | some ms =>
          simp only [blsD, q, Option.map_some, Option.some.injEq] at e
          rw [← e, blsD_den h2 q]; rfl
      | _ => cases e
theorem strsD_den {H : Hp} {ι : Ix} : ∀ {ds : List D} {vs : List V} {ns : List Str}, DenL K H ι vs ds → strsD ds = some ns → vs = ns.map V.str
  | [], _, _, h, e => by cases h; cases e; rfl
  | d :: ds, _, _, h, e => by
    cases h with
    | cons h1 h2 =>
      cases d with
      | str i =>
        cases h1
        cases q : strsD ds with
        | none => simp [strsD, q] at e
        | some ms =>
          simp only [strsD, q, Option.map_some, Option.some.injEq] at e
          rw [← e, strsD_den h2 q]; rfl
      | _ => cases e
/-- of a list of truths -/
def blsF (f : List Bool → D) : D → Store → Res D := fun d S => match lstOf S d with
  | some xs => match blsD xs with
    | some bs => .ok (f bs) S
    | none => .bad
  | none => .bad
def allF : D → Store → Res D := blsF fun bs => .bl (bs.all id)
def anyF : D → Store → Res D := blsF fun bs => .bl (bs.any id)
theorem ap_bls {f : List Bool → D} {g : List Bool → V} (hg : ∀ bs H ι, Den K H ι (g bs) (f bs)) : AppR K (fun vs H Q => ∃ (a : Addr) (bs : List Bool), vs = [V.ref a] ∧ SqL K H a (bs.map V.bl) ∧ Q (g bs) H) (one (blsF f)) :=
  appR_one fun E H ι S v d Q s h hf => by
    unfold blsF at hf
    split at hf
    · rename_i xs e
      split at hf
      · rename_i bs e2
        obtain ⟨a, vs, rfl, h1, h2, _⟩ := lst_den s h e
        exact ⟨a, bs, rfl, .inl (by rw [← blsD_den h2 e2]; exact h1), hf.here s (hg bs _ _)⟩
      · exact hf.elim
    · exact hf.elim
theorem ap_all : AppR K (rAll K) (one allF) := ap_bls fun _ _ _ => .bl _
theorem ap_any : AppR K (rAny K) (one anyF) := ap_bls fun _ _ _ => .bl _
/-- of a list of ints -/
def sumF : D → Store → Res D := fun d S => match lstOf S d with
  | some xs => match intsD xs with
    | some ns => .ok (.int ns.sum) S
    | none => .bad
  | none => .bad
theorem ap_sum : AppR K (rSum K) (one sumF) := appR_one fun E H ι S v d Q s h hf => by
    unfold sumF at hf
    split at hf
    · rename_i xs e
      split at hf
      · rename_i ns e2
        obtain ⟨a, vs, rfl, h1, h2, _⟩ := lst_den s h e
        exact ⟨a, ns, rfl, .inl (by rw [← intsD_den h2 e2]; exact h1), hf.here s (.int _)⟩
      · exact hf.elim
    · exact hf.elim
def maxL : List Int → Int
  | [] => 0
  | [i] => i
  | i :: r => max i (maxL r)
def minL : List Int → Int
  | [] => 0
  | [i] => i
  | i :: r => min i (minL r)
theorem maxL_ge : ∀ {ns : List Int} {y : Int}, y ∈ ns → y ≤ maxL ns
  | [i], y, h => by simp at h; subst h; exact Int.le_refl _
  | i :: j :: r, y, h => by
    rcases List.mem_cons.mp h with e | h
    · subst e; exact Int.le_max_left _ _
    · exact Int.le_trans (maxL_ge h) (Int.le_max_right _ _)
theorem minL_le : ∀ {ns : List Int} {y : Int}, y ∈ ns → minL ns ≤ y
  | [i], y, h => by simp at h; subst h; exact Int.le_refl _
  | i :: j :: r, y, h => by
    rcases List.mem_cons.mp h with e | h
    · subst e; exact Int.min_le_left _ _
    · exact Int.le_trans (Int.min_le_right _ _) (minL_le h)
theorem maxL_mem : ∀ {ns : List Int}, ns ≠ [] → maxL ns ∈ ns
  | [i], _ => by simp [maxL]
  | i :: j :: r, _ => by
    have h := maxL_mem (ns := j :: r) (by simp)
    show max i (maxL (j :: r)) ∈ _
    rcases Int.le_total i (maxL (j :: r)) with z | z
    · rw [Int.max_eq_right z]; exact List.mem_cons_of_mem _ h
    · rw [Int.max_eq_left z]; exact List.mem_cons_self
theorem minL_mem : ∀ {ns : List Int}, ns ≠ [] → minL ns ∈ ns
  | [i], _ => by simp [minL]
  | i :: j :: r, _ => by
    have h := minL_mem (ns := j :: r) (by simp)
    show min i (minL (j :: r)) ∈ _
    rcases Int.le_total i (minL (j :: r)) with z | z
    · rw [Int.min_eq_left z]; exact List.mem_cons_self
    · rw [Int.min_eq_right z]; exact List.mem_cons_of_mem _ h
def maxF : D → Store → Res D := fun d S => match lstOf S d with
  | some xs => match intsD xs with
    | some (n :: ns) => .ok (.int (maxL (n :: ns))) S
    | _ => .bad
  | none => .bad
def minF : D → Store → Res D := fun d S => match lstOf S d with
  | some xs => match intsD xs with
    | some (n :: ns) => .ok (.int (minL (n :: ns))) S
    | _ => .bad
  | none => .bad
theorem ap_max : AppR K (rMax K) (one maxF) := appR_one fun E H ι S v d Q s h hf => by
    unfold maxF at hf
    split at hf
    · rename_i xs e
      split at hf
      · rename_i n ns e2
        obtain ⟨a, vs, rfl, h1, h2, _⟩ := lst_den s h e
        refine ⟨a, n :: ns, rfl, .inl (by rw [← intsD_den h2 e2]; exact h1), by simp, fun m hm hx => ?_⟩
        have : m = maxL (n :: ns) := Int.le_antisymm (maxL_ge hm) (hx _ (maxL_mem (by simp)))
        subst this
        exact hf.here s (.int _)
      · exact hf.elim
    · exact hf.elim
theorem ap_min : AppR K (rMin K) (one minF) := appR_one fun E H ι S v d Q s h hf => by
    unfold minF at hf
    split at hf
    · rename_i xs e
      split at hf
      · rename_i n ns e2
        obtain ⟨a, vs, rfl, h1, h2, _⟩ := lst_den s h e
        refine ⟨a, n :: ns, rfl, .inl (by rw [← intsD_den h2 e2]; exact h1), by simp, fun m hm hx => ?_⟩
        have : m = minL (n :: ns) := Int.le_antisymm (hx _ (minL_mem (by simp))) (minL_le hm)
        subst this
        exact hf.here s (.int _)
      · exact hf.elim
    · exact hf.elim
end

/-! ### subscripts -/
section
variable {X : Cx} {W : WX} {K : PySem.W.Frag} {a b : Expr} {ma mb : EM} {pos p2 : Pos}
theorem DenL.at {H : Hp} {ι : Ix} {vs : List V} {ds : List D} {i : Int} {d : D} (h : DenL K H ι vs ds) (e : atI ds i = some d) : ∃ v, atI vs i = some v ∧ Den K H ι v d := by
  unfold atI at e ⊢
  rw [h.length]
  cases q : ixN ds.length i with
  | none => rw [q] at e; cases e
  | some j =>
    rw [q] at e
    exact h.get e
def ixF : D → D → Store → Res D := fun d e S => match e with
  | .int i => match d with
    | .str z => match atI z.cps.toList i with
      | some c => if z.length ≤ sizeLine then .ok (.str ⟨#[c]⟩) S else .bad
      | none => .bad
    | d => match seqOf S d with
      | some xs => match atI xs i with
        | some x => .ok x S
        | none => .bad
      | none => .bad
  | _ => .bad
theorem ix2 : Op2R K (rIx K) ixF := fun E H ι S v w d e Q s h1 h2 hf => by
  unfold ixF at hf
  split at hf
  · rename_i i
    cases h2
    split at hf
    · rename_i z
      cases h1
      split at hf
      · rename_i c hc
        split at hf
        · exact .inr (.inr ⟨z, i, c, rfl, rfl, by assumption, hc, hf.here s (.str _)⟩)
        · exact hf.elim
      · exact hf.elim
    · split at hf
      · rename_i xs he
        split at hf
        · rename_i x hx
          obtain ⟨p, vs, rfl, h3, h4⟩ := seq_den s h1 he
          obtain ⟨u, hu, hd⟩ := h4.at hx
          rcases h3 with h3 | h3
          · exact .inl ⟨p, vs, i, u, rfl, rfl, h3, hu, hf.here s hd⟩
          · exact .inr (.inl ⟨p, vs, i, u, rfl, rfl, h3, hu, hf.here s hd⟩)
        · exact hf.elim
      · exact hf.elim
  · exact hf.elim
theorem pm_ix (ha : PE X a (tE X.K W ma)) (hb : PE X b (tE X.K W mb)) (hs : PlainIx b := by intro _ _; rfl) : PE X (.Subscript a b pos) (tE X.K W (mOp2 ixF ma mb)) :=
  pe_weak (pe_ix ix_seq ha hb hs) fun _ _ _ h => rd_op2 ix2 h

/-! slices: a part is left out, or an int -/
abbrev OM := MD.Env → Store → Res (Option Int)
def oNone : OM := fun _ S => .ok none S
def intD : D → Store → Res (Option Int) := fun d S => match d with
  | .int i => .ok (some i) S
  | _ => .bad
def oSome (a : EM) : OM := fun ρ S => (a ρ S).bind intD
def tO (K : PySem.W.Frag) (W : WX) (m : OM) : TO := tGen K W (fun _ _ v a => v = a) m
structure PMo (X : Cx) (W : WX) (e : Option Expr) (m : OM) : Prop where
  ex : ∃ t, PO X e t ∧ ∀ σ H Q, tO X.K W m σ H Q → t σ H Q
theorem pmo_none : PMo X W none oNone := ⟨_, po_none, fun σ H Q ⟨ρ, S, ι, he, hs, h⟩ => h.here hs rfl⟩
theorem pmo_some (ha : PE X a (tE X.K W ma)) : PMo X W (some a) (oSome ma) := ⟨_, po_some ha, fun σ H Q h => by
  obtain ⟨ρ, S, ι, he, hs, h⟩ := tGen.bind (R := Den X.K) (k := fun _ x S1 => intD x S1) h
  refine ⟨ρ, S, ι, he, hs, h.mono fun v H1 ⟨ρ1, ι1, x, S1, e1, s1, d1, h1⟩ => ?_⟩
  unfold intD at h1
  split at h1
  · cases d1; exact ⟨_, rfl, h1.here s1 rfl⟩
  · exact h1.elim⟩
def cutD (xs : List D) (lo hi : Option Int) : List D := (xs.drop (HT.sIx xs.length 0 lo)).take (HT.sIx xs.length xs.length hi - HT.sIx xs.length 0 lo)
theorem DenL.cut {H : Hp} {ι : Ix} {vs : List V} {ds : List D} (h : DenL K H ι vs ds) (lo hi : Option Int) : DenL K H ι (cutV vs lo hi) (cutD ds lo hi) := by
  unfold cutV cutD
  rw [h.length]
  exact (h.drop _).take _
/-- d[lo:hi]; c: a list is laid as a numbered one -/
def slF (c : Bool) : D → Option Int → Option Int → Store → Res D := fun d lo hi S => match d with
  | .str z => if z.length ≤ sizeLine then .ok (.str (cutS z lo hi)) S else .bad
  | .tup xs => .ok (.tup (cutD xs lo hi)) S
  | d => match lstOf S d with
    | some xs => newL c (cutD xs lo hi) S
    | none => .bad
def mSl (c : Bool) (a : EM) (lo hi : OM) : EM := fun ρ S => (a ρ S).bind fun x S1 => (lo ρ S1).bind fun l S2 => (hi ρ S2).bind fun u S3 => slF c x l u S3
abbrev rSlc (K : PySem.W.Frag) : V → Option Int → Option Int → Hp → VK → Prop := fun x lo hi H Q => (rSlA K x lo hi H Q ∨ rSlL K x lo hi H Q) ∨ rSlS x lo hi H Q
theorem sl3 {c : Bool} (E : XK) (H : Hp) (ι : Ix) (S : Store) (v : V) (d : D) (lo hi : Option Int) (Q : VK) (s : RepS K H ι S) (h : Den K H ι v d) (hf : Fi K (Den K) E H ι (slF c d lo hi S) Q) : rSlc K v lo hi H Q := by
  unfold slF at hf
  split at hf
  · rename_i z
    cases h
    split at hf
    · exact .inr ⟨z, rfl, by assumption, hf.here s (.str _)⟩
    · exact hf.elim
  · rename_i xs
    cases h with
    | @tup a vs _ h1 h2 =>
      refine .inl (.inl ⟨a, vs, rfl, h1.sq, fun q => ?_, fun _ => fi_tup s (h2.cut lo hi) hf⟩)
      have e : cutD xs lo hi = xs := by
        unfold cutD
        rw [← h2.length, q.1, q.2]
        simp [h2.length]
      rw [e] at hf
      exact hf.here s (.tup h1 h2)
  · split at hf
    · rename_i xs e
      obtain ⟨a, vs, rfl, h1, h2, _⟩ := lst_den s h e
      exact .inl (.inr ⟨a, vs, rfl, .inl h1, (fi_newL s (h2.cut lo hi) hf).2⟩)
    · exact hf.elim
theorem pm_sl (c : Bool) {lo hi : Option Expr} {ml mh : OM} (ha : PE X a (tE X.K W ma)) (hl : PMo X W lo ml) (hh : PMo X W hi mh) : PE X (.Subscript a (.Slice lo hi none p2) pos) (tE X.K W (mSl c ma ml mh)) := by
  obtain ⟨tl, pl, ql⟩ := hl.ex
  obtain ⟨th, ph, qh⟩ := hh.ex
  refine pe_weak (pe_slice ((sl_tupA.or sl_list).or sl_str) ha pl ph) fun σ H Q h => ?_
  obtain ⟨ρ, S, ι, he, hs, h⟩ := tGen.bind (R := Den X.K) (k := fun ρ x S1 => (ml ρ S1).bind fun l S2 => (mh ρ S2).bind fun u S3 => slF c x l u S3) h
  refine ⟨ρ, S, ι, he, hs, h.mono fun v H1 ⟨ρ1, ι1, x, S1, e1, s1, d1, h1⟩ => ql _ _ _ ?_⟩
  refine ⟨ρ1, S1, ι1, e1, s1, (h1.bind (R := fun _ _ v a => v = a)).mono fun l H2 ⟨ι2, y, S2, x2, s2, d2, h2⟩ => qh _ _ _ ?_⟩
  subst d2
  refine ⟨ρ1, S2, ι2, e1.ext x2, s2, (h2.bind (R := fun _ _ v a => v = a)).mono fun u H3 ⟨ι3, z, S3, x3, s3, d3, h3⟩ => ?_⟩
  subst d3
  exact sl3 _ H3 ι3 S3 v x l u Q s3 (Den.ext x3 x (Den.ext x2 x d1)) h3
end
end MD

set_option maxHeartbeats 4000000
namespace MDW
open PySem PySem.Spec PySem.Calls PyProof.Rows PySem.W
section
variable {prog : Program} {w : World} {A : Around} {E : Value → Shared → Prop} {s : Shared} {K : Frag} {x C : Addr} {ox : Obj} {od : Option Obj}
theorem findObj_class (hc : hasDictIn K C = true) (ha : findIn K (.ref C) "__class__" = some (some (.builtin "object.__class__"))) (hn : specialIn K (.builtin "object.__class__") "__get__" = some (some (.builtin "getset_descriptor.__get__")))
    (ht : takesIn K (.builtin "object.__class__") = some true) : findObj K C od "__class__" = some (.bind (.builtin "getset_descriptor.__get__") (.builtin "object.__class__")) := by
  obtain ⟨cd, hc, _⟩ := any_some hc
  unfold findObj
  rw [hc, Option.bind_some, ha, Option.bind_some]
  simp [hn, ht]
/-- the class of an error that may have fields -/
theorem class_of_exc {Q : Option Value → Shared → Prop} (F : L2.ExcC K C) (X : K.In s.heap) (I : InstAt s.heap x ox C od) (h : Q (some (.ref C)) { s with toks := s.toks + 1 }) : wpAny (model prog w) A (getAttr? (.ref x) "__class__") Q E s := by
  have hf : findObj K C od "__class__" = _ := findObj_class F.hd F.ha F.hn F.ht
  obtain ⟨hp, gs, dr, tk, os⟩ := s
  have l0 := I.type (M := model prog w)
  have l1 := looks_findIn (M := model prog w) X F.hg
  have l2 := looks_findIn (M := model prog w) X F.hk
  have l3 := looks_find (M := model prog w) X I hf
  have isB : Looks (model prog w) hp (isInstance (.ref x) (.type "BaseException")) true := l0.andThen (looks_subIn X F.hs)
  have b0 : (false && onTheHeap (Value.builtin "BaseException.__getattribute__")) = false := rfl
  have b2 : (Value.builtin "BaseException.__getattribute__" == Value.builtin "object.__getattribute__") = false := by decide +kernel
  have b1 : (onTheHeap (Value.ref C) && Value.builtin "BaseException.__getattribute__" == Value.builtin "object.__getattribute__") = false := by rw [b2]; rfl
  unfold getAttr? getAttrBy? getAttrBy
  refine wpAny_bind (wpAny_mkText (wpAny_bind (wpAny_attempt (wpAny_holding (wpAny_bind (l0.at (wpAny_bind (l1.at ?_))))))))
  show wpAny _ _ (if (onTheHeap (Value.ref C) && Value.builtin "BaseException.__getattribute__" == Value.builtin "object.__getattribute__") = true then _ else _) _ _ _
  rw [b1, if_neg Bool.false_ne_true]
  unfold getAttrByItsOwn hookBefore
  refine wpAny_bind ?_
  rw [if_pos (show onTheHeap (Value.ref C) = true from rfl)]
  refine l2.at (wpAny_bind (wpAny_attempt (wpAny_holding ?_)))
  unfold callGetattribute
  rw [b0, if_neg Bool.false_ne_true]
  unfold boundAndCalled
  rw [PySem.F.excAttr_ValueError.ga.bind (.ref x)]
  refine wpAny_bind (wpAny_pure ?_)
  show wpAny _ _ (call (.builtin "BaseException.__getattribute__") [.ref x, .str "__class__" tk]) _ _ _
  refine wpAny_call (codeAny_call_builtin PySem.F.excAttr_ValueError.ga.plain PySem.F.entry_bexc_ga ?_)
  refine @check_slot (model prog w) _ _ ⟨hp, gs, dr, tk + 1, os⟩ "BaseException.__getattribute__" "BaseException" "__getattribute__" (.ref x) [.str "__class__" tk] [] _ (by decide +kernel) (by decide +kernel) isB (PySem.F.args_bexc_ga (.ref x) (.str "__class__" tk)) ?_
  unfold Builtin.«object.__getattribute__»
  refine wpAny_bind (wpAny_of_eq (a := ((Value.ref x : Value), [Value.str "__class__" tk])) (by first | rfl | (simp only [slotArgs]; rfl)) ?_)
  refine wpAny_bind (wpAny_pure (wpAny_bind (l0.at (wpAny_bind (l3.at ?_)))))
  show wpAny _ _ (holding [Value.builtin "object.__class__"] (call (.builtin "getset_descriptor.__get__") [.builtin "object.__class__", .ref x, .ref C]) >>= ret) _ _ _
  refine wpAny_bind (wpAny_holding (wpAny_call (class_get (s := ⟨hp, gs, dr, tk + 1, os⟩) (ox := ox) (od := od) X I F.hm ?_)))
  refine wpAny_pure ?_
  show wpAny _ _ (handedOut (.ref C)) _ _ _
  rw [handedOut_of (v := .ref C) rfl]
  first
    | exact wpAny_pure (wpAny_pure h)
    | exact wpAny_pure h
    | exact wpAny_pure (wpAny_bind (wpAny_pure (wpAny_pure h)))
theorem kitx_of_exc (F : L2.ExcC K C) : KitX K (.ref x) (.ref C) (fun h => InstAt h x ox C od) where
  ty := fun _ _ _ I => I.type
  it := fun _ _ X _ => by
    obtain ⟨cd, hc, _⟩ := any_some F.hd
    unfold clsIn at hc
    split at hc
    · rename_i c1 d1 cd1 sl1 ho
      intro A' Q' E' s' k q
      unfold isType loadHead
      exact wpAny_bind (wpAny_loadPart (k _ _ (X _ _ ho)) (wpAny_pure q))
    · cases hc
  ne := fun h tp dd its n sl X htp => by
    obtain ⟨cd, hc, _⟩ := any_some F.hd
    refine Bool.eq_false_iff.mpr fun q => ?_
    have e : C = tp := Value.ref.inj (beq_iff_eq.mp q)
    subst e
    unfold clsIn at hc
    split at hc
    · rename_i c1 d1 cd1 sl1 ho
      have z := (X _ _ ho).symm.trans htp
      cases z
    · cases hc
  ca := fun X I k => class_of_exc F X I k
end
end MDW
namespace MD
open PySem PySem.Spec PyProof.Rows L2

/-! ### isinstance -/
/-- at a: a caught exception; its object -/
theorem exc_at {X : Cx} {pins : List (Addr × Obj)} {σ : L2.St} {H : Hp} {s : Shared} {a C : Addr} {dd : Option Addr} (I : Inv X pins σ H s) (h : H a = some (ExK C dd a)) :
    ∃ (oe : Obj) (vs : Array Value), s.heap.get? a = some oe ∧ oe.cls = .ref C ∧ oe.dict = dd ∧ oe.data = .fields vs :=
  (show ObjOk X.prog X.w H s.heap a (ExK C dd a) from I.hok a _ h).1
/-- the kind of a value: of a built-in type, an instance, an exception -/
inductive Knd where
  | ty (T : String) | ins (C : Addr) | exc (C : Addr)
def kindD (S : Store) : D → Option Knd
  | .non => some (.ty "NoneType")
  | .bl _ => some (.ty "bool")
  | .int _ => some (.ty "int")
  | .str _ => some (.ty "str")
  | .tup _ => some (.ty "tuple")
  | .lst _ => some (.ty "list")
  | .loc n => match S[n]? with
    | some (.lst _) => some (.ty "list")
    | some (.ins C _) => some (.ins C)
    | some (.exc x) => some (.exc x.cls)
    | _ => none
  | .ob _ => none
def ansF (o : Option Bool) (S : Store) : Res D := match o with
  | some b => .ok (.bl b) S
  | none => .bad
/-- isinstance(d, c): the tables tell, for the kinds that come -/
def isF (kb : List (String × Bool)) (cb eb : List (Addr × Bool)) : D → Store → Res D := fun d S => match kindD S d with
  | some (.ty T) => ansF (kb.lookup T) S
  | some (.ins C) => ansF (cb.lookup C) S
  | some (.exc C) => ansF (eb.lookup C) S
  | none => .bad
/-- what isinstance must find of a class with instances -/
structure InsK (K : PySem.W.Frag) (C : Addr) : Prop where
  cl : Cls K C
  ha : PySem.W.findIn K (.ref C) "__class__" = some (some (.builtin "object.__class__"))
  hn : PySem.W.specialIn K (.builtin "object.__class__") "__get__" = some (some (.builtin "getset_descriptor.__get__"))
  htk : PySem.W.takesIn K (.builtin "object.__class__") = some true
  hm : PySem.W.mroIn K C (.type "object") = some true
structure IsOk (K : PySem.W.Frag) (u : Value) (kb : List (String × Bool)) (cb eb : List (Addr × Bool)) : Prop where
  ty : ∀ T b, kb.lookup T = some b → PySem.W.kitOne K (.type T) u = some b
  ins : ∀ C b, cb.lookup C = some b → PySem.W.kitOne K (.ref C) u = some b ∧ InsK K C
  exc : ∀ C b, eb.lookup C = some b → PySem.W.kitOne K (.ref C) u = some b ∧ ExcC K C
section
variable {X : Cx} {W : WX} {K : PySem.W.Frag}
/-- an instance, a caught exception -/
def rIsX (K : PySem.W.Frag) : List V → Hp → VK → Prop := fun xs H Q => rIsi K xs H Q ∨
  ∃ (a C : Addr) (dd : Option Addr) (c : V) (u : Value) (b : Bool), xs = [.ref a, c] ∧ ClsV c u ∧ H a = some (ExK C dd a) ∧ (dd = none ∨ ∃ d fv, dd = some d ∧ H d = some (.xd fv)) ∧ ExcC K C ∧ PySem.W.kitOne K (.ref C) u = some b ∧ Q (.bl b) H
theorem call_isX : CallR X (.builtin "isinstance") (rIsX X.K) := by
  intro pins s σ H xs us Q I r h
  rcases h with h | ⟨a, C, dd, c, u, b, rfl, hc, ha, hd, F, e, q⟩
  · exact call_isi pins s σ H xs us Q I r h
  · obtain ⟨u1, u2, rfl, r1, r2⟩ := vals2 r
    have e2 := hc.eq r2
    subst e2
    cases r1
    obtain ⟨oe, vs, g1, g2, g3, g4⟩ := exc_at I ha
    have fin : ∀ tk, EP X pins σ Q (.bool b) { s with toks := tk } := fun tk => ⟨.bl b, H, I.tok tk, rfl, q⟩
    have nc : PySem.W.notCls oe = true := by unfold PySem.W.notCls; rw [g4]
    rcases hd with rfl | ⟨d, fv, rfl, hx⟩
    · exact PySem.W.kia_one (MDW.kitx_of_exc (od := none) F) I.kIn ⟨g1, g2, nc, by rw [g3]; trivial⟩ e (fun z => nomatch z) fin
    · have hxd : ObjOk X.prog X.w H s.heap d (.xd fv) := I.hok d _ hx
      obtain ⟨mA, hns, _⟩ := hxd
      obtain ⟨od, ho, _⟩ := lookIn_ns hns
      exact PySem.W.kia_one (MDW.kitx_of_exc (od := some od) F) I.kIn ⟨g1, g2, nc, by rw [g3]; exact ho⟩ e (fun z => nomatch z) fin
theorem tyX_kind {H : Hp} {ι : Ix} {S : Store} {v : V} {d : D} {T : String} (s : RepS K H ι S) (h : Den K H ι v d) (e : kindD S d = some (.ty T)) : TyX K H v (.type T) := by
  cases d with
  | non => cases h; cases e; exact .base .non
  | bl b => cases h; cases e; exact .base (.bl b)
  | int i => cases h; cases e; exact .base (.int i)
  | str x => cases h; cases e; exact .base (.str x)
  | tup xs =>
    cases h with
    | tup h1 h2 =>
      cases e
      rcases h1 with ⟨h1, _⟩ | ⟨o, its, n, h1, h2, _⟩
      · rcases h1 with h1 | ⟨o, h1⟩
        · exact .base (.tup h1)
        · exact .fTuple h1
      · exact .kTuple h1 h2
  | lst xs =>
    cases h with
    | lst h1 h2 =>
      cases e
      rcases h1.1 with h1 | ⟨o, h1⟩
      · exact .base (.lst h1)
      · exact .base (.frz h1)
  | loc n =>
    cases h with
    | loc h =>
      unfold kindD at e
      dsimp only at e
      cases q : S[n]? with
      | none => rw [q] at e; cases e
      | some c =>
        rw [q] at e
        cases c with
        | lst ys =>
          cases e
          obtain ⟨b, vs, e1, e2, e3⟩ := s.cell n _ _ h q
          cases e1
          exact .base (.lst e2)
        | gone => cases e
        | ins C fs => cases e
        | exc y => cases e
  | ob a => cases e
theorem fld_dd {H : Hp} {ι : Ix} {fs : Option (List (Str × D))} {dd : Option Addr} (h : FldD K H ι fs dd) : dd = none ∨ ∃ d fv, dd = some d ∧ H d = some (.xd fv) := by
  cases fs with
  | none => exact .inl h
  | some fs =>
    obtain ⟨d, fv, h1, h2, _⟩ := h
    exact .inr ⟨d, fv, h1, h2⟩
theorem ans_ok {R : Hp → Ix → V → D → Prop} {E : XK} {H : Hp} {ι : Ix} {S : Store} {Q : VK} {o : Option Bool} (hf : Fi K R E H ι (ansF o S) Q) : ∃ b, o = some b ∧ Fi K R E H ι (.ok (.bl b) S) Q := by
  unfold ansF at hf
  split at hf
  · exact ⟨_, rfl, hf⟩
  · exact hf.elim
theorem is1 {u : Value} {c : V} {kb : List (String × Bool)} {cb eb : List (Addr × Bool)} (O : IsOk K u kb cb eb) (hc : ClsV c u)
    (E : XK) (H : Hp) (ι : Ix) (S : Store) (v : V) (d : D) (Q : VK) (s : RepS K H ι S) (h : Den K H ι v d) (hf : Fi K (Den K) E H ι (isF kb cb eb d S) Q) : rIsX K [v, c] H Q := by
  unfold isF at hf
  split at hf
  · rename_i T e
    obtain ⟨b, e2, fin⟩ := ans_ok hf
    exact .inl ⟨v, c, _, u, b, rfl, hc, tyX_kind s h e, O.ty T b e2, fin.here s (.bl b)⟩
  · rename_i C e
    obtain ⟨b, e2, fin⟩ := ans_ok hf
    obtain ⟨kk, I⟩ := O.ins C b e2
    cases d with
    | loc n =>
      unfold kindD at e
      dsimp only at e
      cases q : S[n]? with
      | none => rw [q] at e; cases e
      | some k =>
        rw [q] at e
        cases h with
        | loc h =>
          cases k with
          | ins D fs =>
            cases e
            obtain ⟨a, dx, fv, e1, e2', _⟩ := s.cell n _ _ h q
            cases e1
            exact .inl ⟨_, c, _, u, b, rfl, hc, .base (.ins e2' I.cl I.ha I.hn I.htk I.hm), kk, fin.here s (.bl b)⟩
          | exc y => cases e
          | gone => cases e
          | lst xs => cases e
    | _ => cases e
  · rename_i C e
    obtain ⟨b, e2, fin⟩ := ans_ok hf
    obtain ⟨kk, F⟩ := O.exc C b e2
    cases d with
    | loc n =>
      unfold kindD at e
      dsimp only at e
      cases q : S[n]? with
      | none => rw [q] at e; cases e
      | some k =>
        rw [q] at e
        cases h with
        | loc h =>
          cases k with
          | exc y =>
            cases e
            obtain ⟨a, dd, e1, e2', e3⟩ := s.cell n _ _ h q
            cases e1
            exact .inr ⟨_, _, dd, c, u, b, rfl, hc, e2', fld_dd e3, F, kk, fin.here s (.bl b)⟩
          | ins D fs => cases e
          | gone => cases e
          | lst xs => cases e
    | _ => cases e
  · exact hf.elim
theorem pm_is {u : Value} {c : V} {kb : List (String × Bool)} {cb eb : List (Addr × Bool)} {a ec : Expr} {ma : EM} {p pos : Pos} (O : IsOk X.K u kb cb eb) (hc : ClsV c u) (hec : PE X ec (tC c)) (ha : PE X a (tE X.K W ma))
    (hm : X.mg "isinstance" = none) (gl : Gl X "isinstance" := by rfl) (hv : bootBuiltins "isinstance" = some (.builtin "isinstance") := by rfl)
    (h1 : starEach [a, ec] X.env = (false, eval a X.env) :: starEach [ec] X.env := by rfl) (h2 : starEach [ec] X.env = (false, eval ec X.env) :: starEach [] X.env := by rfl) (hpl : (backTo pos (starEach [ec] X.env)).any (·.1) = false := by rfl) :
    PE X (.Call (.Name "isinstance" p) [a, ec] [] pos) (tE X.K W (mOp1 (isF kb cb eb) ma)) :=
  pe_weak (pe_callB call_isX gl hm hv (pa_cons ha (pa_cons hec pa_nil h2) h1) (by decide) (by decide) h1 hpl) fun σ H Q h => by
    obtain ⟨ρ, S, ι, he, hs, h⟩ := tGen.bind (R := Den X.K) (k := fun _ x S1 => isF kb cb eb x S1) h
    exact ⟨ρ, S, ι, he, hs, h.mono fun v H1 ⟨ρ1, ι1, x, S1, e1, s1, d1, h1⟩ => is1 O hc _ H1 ι1 S1 v x Q s1 d1 h1⟩
/-! ### attributes: of an instance, of a caught exception -/
theorem lookup_den {H : Hp} {ι : Ix} {f : Str} : ∀ {fv : List (Str × V)} {fs : List (Str × D)} {d : D}, fv.map (·.1) = fs.map (·.1) → DenL K H ι (fv.map (·.2)) (fs.map (·.2)) → fs.lookup f = some d → ∃ v, fv.lookup f = some v ∧ Den K H ι v d
  | [], [], _, _, _, e => by cases e
  | [], _ :: _, _, h, _, _ => by cases h
  | _ :: _, [], _, h, _, _ => by cases h
  | (g, v) :: fv, (g', x) :: fs, d, h, hd, e => by
    simp only [List.map_cons, List.cons.injEq] at h
    obtain ⟨h1, h2⟩ := h
    subst h1
    cases hd with
    | cons d1 d2 =>
      simp only [List.lookup_cons] at e ⊢
      split at e
      · cases e; exact ⟨v, rfl, d1⟩
      · exact lookup_den h2 d2 e
def putD (f : Str) (v : D) : List (Str × D) → List (Str × D)
  | [] => [(f, v)]
  | (g, x) :: r => if g = f then (g, v) :: r else (g, x) :: putD f v r
theorem putD_den {H : Hp} {ι : Ix} {f : Str} {v : V} {d : D} (h : Den K H ι v d) : ∀ {fv : List (Str × V)} {fs : List (Str × D)}, fv.map (·.1) = fs.map (·.1) → DenL K H ι (fv.map (·.2)) (fs.map (·.2)) →
    (putF f v fv).map (·.1) = (putD f d fs).map (·.1) ∧ DenL K H ι ((putF f v fv).map (·.2)) ((putD f d fs).map (·.2))
  | [], [], _, _ => ⟨rfl, .cons h .nil⟩
  | [], _ :: _, q, _ => by cases q
  | _ :: _, [], q, _ => by cases q
  | (g, x) :: fv, (g', y) :: fs, q, hd => by
    simp only [List.map_cons, List.cons.injEq] at q
    obtain ⟨h1, h2⟩ := q
    subst h1
    cases hd with
    | cons d1 d2 =>
      obtain ⟨r1, r2⟩ := putD_den h h2 d2
      unfold putF putD
      by_cases hg : g = f
      · rw [if_pos hg, if_pos hg]
        exact ⟨by simp [h2], .cons h d2⟩
      · rw [if_neg hg, if_neg hg]
        exact ⟨by simp [r1], .cons d1 r2⟩
/-- d.f, d an instance of one of the classes cs -/
def fldF (cs : List Addr) (f : Str) : D → Store → Res D := fun d S => match d with
  | .loc n => match S[n]? with
    | some (.ins C fs) => if C ∈ cs then match fs.lookup f with
      | some x => .ok x S
      | none => .bad
      else .bad
    | _ => .bad
  | _ => .bad
/-- the classes' instances have plain attributes of that name -/
structure FldOk (K : PySem.W.Frag) (cs : List Addr) (f : Str) : Prop where
  cl : ∀ C, C ∈ cs → Cls K C
  no : ∀ C, C ∈ cs → NoAttr K C f
theorem pm_fld {cs : List Addr} {f : Str} {a : Expr} {ma : EM} {pos : Pos} (O : FldOk X.K cs f) (ha : PE X a (tE X.K W ma)) (hb : attributeBase a f X.env (eval a X.env) = eval a X.env := by rfl) :
    PE X (.Attribute a f pos) (tE X.K W (mOp1 (fldF cs f) ma)) := pe_weak (pe_fld ha hb) fun σ H Q h => by
  obtain ⟨ρ, S, ι, he, hs, h⟩ := tGen.bind (R := Den X.K) (k := fun _ x S1 => fldF cs f x S1) h
  refine ⟨ρ, S, ι, he, hs, h.mono fun v H1 ⟨ρ1, ι1, x, S1, e1, s1, d1, h1⟩ => ?_⟩
  unfold fldF at h1
  split at h1
  · rename_i n
    split at h1
    · rename_i C fs q
      split at h1
      · rename_i hC
        split at h1
        · rename_i d e
          cases d1 with
          | loc d1 =>
            obtain ⟨b, dx, fv, e1, e2, e3, e4, e5, e6⟩ := s1.cell n _ _ d1 q
            cases e1
            obtain ⟨u, hu, hd⟩ := lookup_den e5 e6 e
            exact ⟨_, C, dx, fv, u, rfl, e2, O.cl C hC, O.no C hC, hu, h1.here s1 hd⟩
        · exact h1.elim
      · exact h1.elim
    · exact h1.elim
  · exact h1.elim
/-- d.f, d a caught exception -/
def xfdF (cs : List Addr) (f : Str) : D → Store → Res D := fun d S => match d with
  | .loc n => match S[n]? with
    | some (.exc y) => if y.cls ∈ cs then match y.fs with
      | some fs => match fs.lookup f with
        | some x => .ok x S
        | none => .bad
      | none => .bad
      else .bad
    | _ => .bad
  | _ => .bad
structure XfdOk (K : PySem.W.Frag) (cs : List Addr) (f : Str) : Prop where
  cl : ∀ C, C ∈ cs → XfC K C
  no : ∀ C, C ∈ cs → NoAttr K C f
def tXfv (K : PySem.W.Frag) (f : Str) (te : TE) : TE := fun σ H Q => te σ H fun x H1 => ∃ (a C dd : Addr) (fs : List (Str × V)) (v : V), x = .ref a ∧ H1 a = some (ExK C (some dd) a) ∧ XfC K C ∧ NoAttr K C f ∧ H1 dd = some (.xd fs) ∧ fs.lookup f = some v ∧ Q v H1
theorem pe_xfv {e : Expr} {te : TE} {pos : Pos} {n : Str} (he : PE X e te) (hb : attributeBase e n X.env (eval e X.env) = eval e X.env := by rfl) : PE X (.Attribute e n pos) (tXfv X.K n te) := by
  refine ⟨fun pins s σ H Q I h => attr_of hb (thn (he.run pins s σ H _ I h) fun u s1 hh => ?_)⟩
  obtain ⟨x, H1, I1, rx, a, C, dd, fs, v, ex, ea, T, hno, ed, l, q⟩ := hh
  subst ex
  obtain rfl : u = Value.ref a := rx
  obtain ⟨oe, vs, g1, g2, g3, g4⟩ := exc_at I1 ea
  have hx : ObjOk X.prog X.w H1 s1.heap dd (.xd fs) := I1.hok dd _ ed
  obtain ⟨mA, hns, hr⟩ := hx
  obtain ⟨od, ho, hl⟩ := lookIn_ns hns
  obtain ⟨u, hu, ru⟩ := RelO.some_of (v := v) (o := mA n) (by rw [← l]; exact hr n)
  exact PySem.HandSPX.exc_get I1.kIn ⟨g1, g2, by unfold PySem.W.notCls; rw [g4], by rw [g3]; exact ho⟩ T.ga T.gg T.exC (PySem.W.findObj_own T.hdC hno rfl (by rw [hl, hu])) (handed_of ru) ⟨v, H1, I1.tok _, ru, q⟩
theorem pm_xfd {cs : List Addr} {f : Str} {a : Expr} {ma : EM} {pos : Pos} (O : XfdOk X.K cs f) (ha : PE X a (tE X.K W ma)) (hb : attributeBase a f X.env (eval a X.env) = eval a X.env := by rfl) :
    PE X (.Attribute a f pos) (tE X.K W (mOp1 (xfdF cs f) ma)) := pe_weak (pe_xfv ha hb) fun σ H Q h => by
  obtain ⟨ρ, S, ι, he, hs, h⟩ := tGen.bind (R := Den X.K) (k := fun _ x S1 => xfdF cs f x S1) h
  refine ⟨ρ, S, ι, he, hs, h.mono fun v H1 ⟨ρ1, ι1, x, S1, e1, s1, d1, h1⟩ => ?_⟩
  unfold xfdF at h1
  split at h1
  · rename_i n
    split at h1
    · rename_i y q
      split at h1
      · rename_i hC
        split at h1
        · rename_i fs ef
          split at h1
          · rename_i d e
            cases d1 with
            | loc d1 =>
              obtain ⟨b, dd, e1, e2, e3⟩ := s1.cell n _ _ d1 q
              cases e1
              rw [ef] at e3
              obtain ⟨dx, fv, r1, r2, r3, r4, r5⟩ := e3
              subst r1
              obtain ⟨u, hu, hd⟩ := lookup_den r4 r5 e
              exact ⟨_, _, dx, fv, u, rfl, e2, O.cl _ hC, O.no _ hC, r2, hu, h1.here s1 hd⟩
          · exact h1.elim
        · exact h1.elim
      · exact h1.elim
    · exact h1.elim
  · exact h1.elim
end
end MD

set_option maxHeartbeats 4000000
namespace MD
open PySem PySem.Spec PyProof.Rows L2

/-! ### methods of texts, of lists -/
section
variable {X : Cx} {W : WX} {K : PySem.W.Frag}
/-- o.m(..), o a text; o a list -/
def mMtS (f : Str → List D → Store → Res D) (o : EM) (t : AM) : EM := fun ρ S => (o ρ S).bind fun x S1 => match x with
  | .str z => (t ρ S1).bind fun xs S2 => f z xs S2
  | _ => .bad
def mMtL (f : D → List D → Store → Res D) (o : EM) (t : AM) : EM := fun ρ S => (o ρ S).bind fun x S1 => if (lstOf S1 x).isSome = true then (t ρ S1).bind fun xs S2 => f x xs S2 else .bad
def MtSR (K : PySem.W.Frag) (r : V → List V → Hp → VK → Prop) (f : Str → List D → Store → Res D) : Prop :=
  ∀ (E : XK) (H : Hp) (ι : Ix) (S : Store) (z : Str) (vs : List V) (ds : List D) (Q : VK), RepS K H ι S → DenL K H ι vs ds → Fi K (Den K) E H ι (f z ds S) Q → r (.str z) vs H Q
def MtLR (K : PySem.W.Frag) (r : V → List V → Hp → VK → Prop) (f : D → List D → Store → Res D) : Prop :=
  ∀ (E : XK) (H : Hp) (ι : Ix) (S : Store) (v : V) (d : D) (vs : List V) (ds : List D) (Q : VK), RepS K H ι S → Den K H ι v d → DenL K H ι vs ds → Fi K (Den K) E H ι (f d ds S) Q → r v vs H Q
theorem rd_mts {r : V → List V → Hp → VK → Prop} {f : Str → List D → Store → Res D} {o : EM} {t : AM} (hf : MtSR K r f) {σ : L2.St} {H : Hp} {Q : VK} (h : tE K W (mMtS f o t) σ H Q) : tBM K "str" r (tE K W o) (tA K W t) σ H Q := by
  obtain ⟨ρ, S, ι, he, hs, h⟩ := tGen.bind (R := Den K) (k := fun ρ x S1 => match x with
    | .str z => (t ρ S1).bind fun xs S2 => f z xs S2
    | _ => .bad) h
  refine ⟨ρ, S, ι, he, hs, h.mono fun v H1 ⟨ρ1, ι1, x, S1, e1, s1, d1, h1⟩ => ?_⟩
  cases x with
  | str z =>
    cases d1
    exact ⟨rfl, ρ1, S1, ι1, e1, s1, h1.bind.mono fun vs H2 ⟨ι2, xs, S2, x2, s2, d2, h2⟩ => hf _ H2 ι2 S2 z vs xs Q s2 d2 h2⟩
  | _ => exact h1.elim
theorem rd_mtl {r : V → List V → Hp → VK → Prop} {f : D → List D → Store → Res D} {o : EM} {t : AM} (hf : MtLR K r f) {σ : L2.St} {H : Hp} {Q : VK} (h : tE K W (mMtL f o t) σ H Q) : tBM K "list" r (tE K W o) (tA K W t) σ H Q := by
  obtain ⟨ρ, S, ι, he, hs, h⟩ := tGen.bind (R := Den K) (k := fun ρ x S1 => if (lstOf S1 x).isSome = true then (t ρ S1).bind fun xs S2 => f x xs S2 else .bad) h
  refine ⟨ρ, S, ι, he, hs, h.mono fun v H1 ⟨ρ1, ι1, x, S1, e1, s1, d1, h1⟩ => ?_⟩
  split at h1
  · rename_i hl
    obtain ⟨ys, hy⟩ := Option.isSome_iff_exists.mp hl
    obtain ⟨a, ws, rfl, h3, h4, _⟩ := lst_den s1 d1 hy
    exact ⟨.inl ⟨rfl, ws, .inl h3⟩, ρ1, S1, ι1, e1, s1, h1.bind.mono fun vs H2 ⟨ι2, xs, S2, x2, s2, d2, h2⟩ => hf _ H2 ι2 S2 _ x vs xs Q s2 (Den.ext x2 x d1) d2 h2⟩
  · exact h1.elim
variable {o e : Expr} {es : List Expr} {mo : EM} {t : AM} {name : Str} {id : String} {r : V → List V → Hp → VK → Prop} {apos pos : Pos}
theorem pm_mts {f : Str → List D → Store → Res D} (slot : Slot "str" name id) (hty : typeOf (.builtin id) = pure (.type "method_descriptor")) (hm : MtR X id r) (hf : MtSR X.K r f) (ho : PE X o (tE X.K W mo)) (ha : PA X (e :: es) (tA X.K W t))
    (hbase : attributeBase o name X.env (eval o X.env) = eval o X.env := by rfl)
    (hfew : ((backTo pos (starEach (e :: es) X.env)).all (fun x => !x.1) && (backToKw pos (keywordEach [] X.env)).all (fun x => x.1.isSome)
      && decide ((e :: es).length + ([] : List Keyword).length + (if ([] : List Keyword).isEmpty then 0 else 1) < 30)) = true := by rfl)
    (hline : (apos.endLine == pos.line) = true := by rfl) (hs : starEach (e :: es) X.env = (false, eval e X.env) :: starEach es X.env := by rfl) (hplain : (backTo pos (starEach es X.env)).any (·.1) = false := by rfl) :
    PE X (.Call (.Attribute o name apos) (e :: es) [] pos) (tE X.K W (mMtS f mo t)) := pe_weak (pe_bm PySem.F.plainAttrs_str slot hty hm ho ha hbase hfew hline hs hplain) fun _ _ _ h => rd_mts hf h
theorem pm_mtl {f : D → List D → Store → Res D} (slot : Slot "list" name id) (hty : typeOf (.builtin id) = pure (.type "method_descriptor")) (hm : MtR X id r) (hf : MtLR X.K r f) (ho : PE X o (tE X.K W mo)) (ha : PA X (e :: es) (tA X.K W t))
    (hbase : attributeBase o name X.env (eval o X.env) = eval o X.env := by rfl)
    (hfew : ((backTo pos (starEach (e :: es) X.env)).all (fun x => !x.1) && (backToKw pos (keywordEach [] X.env)).all (fun x => x.1.isSome)
      && decide ((e :: es).length + ([] : List Keyword).length + (if ([] : List Keyword).isEmpty then 0 else 1) < 30)) = true := by rfl)
    (hline : (apos.endLine == pos.line) = true := by rfl) (hs : starEach (e :: es) X.env = (false, eval e X.env) :: starEach es X.env := by rfl) (hplain : (backTo pos (starEach es X.env)).any (·.1) = false := by rfl) :
    PE X (.Call (.Attribute o name apos) (e :: es) [] pos) (tE X.K W (mMtL f mo t)) := pe_weak (pe_bm PySem.F.plainAttrs_list slot hty hm ho ha hbase hfew hline hs hplain) fun _ _ _ h => rd_mtl hf h

/-! texts -/
def splitF (c : Bool) : Str → List D → Store → Res D := fun a ds S => match ds with
  | [.str b] => if (b.length == 0) = false ∧ a.length + 2 ≤ sizeLine then newL c ((Txt.split a b).map D.str) S else .bad
  | _ => .bad
theorem den_strs {H : Hp} {ι : Ix} : ∀ (l : List Str), DenL K H ι (l.map V.str) (l.map D.str)
  | [] => .nil
  | x :: l => .cons (.str x) (den_strs l)
theorem mr_split (c : Bool) : MtSR K (fun x xs H Q => ∃ a b, x = .str a ∧ xs = [.str b] ∧ (b.length == 0) = false ∧ a.length + 2 ≤ sizeLine ∧ rNewStrs (Txt.split a b) H Q) (splitF c) := fun E H ι S z vs ds Q s h hf => by
  unfold splitF at hf
  split at hf
  · rename_i b
    obtain ⟨v, rfl, h1⟩ := h.one
    cases h1
    split at hf
    · rename_i hh
      exact ⟨z, b, rfl, rfl, hh.1, hh.2, (fi_newL s (den_strs _) hf).2⟩
    · exact hf.elim
  · exact hf.elim
def rprefF : Str → List D → Store → Res D := fun a ds S => match ds with
  | [.str b] => if a.length ≤ sizeLine then .ok (.str (Txt.removeprefix a b)) S else .bad
  | _ => .bad
theorem mr_rpref : MtSR K (fun x xs H Q => ∃ a b, x = .str a ∧ xs = [.str b] ∧ a.length ≤ sizeLine ∧ Q (.str (Txt.removeprefix a b)) H) rprefF := fun E H ι S z vs ds Q s h hf => by
  unfold rprefF at hf
  split at hf
  · rename_i b
    obtain ⟨v, rfl, h1⟩ := h.one
    cases h1
    split at hf
    · exact ⟨z, b, rfl, rfl, by assumption, hf.here s (.str _)⟩
    · exact hf.elim
  · exact hf.elim
def partF : Str → List D → Store → Res D := fun a ds S => match ds with
  | [.str b] => if (b.length == 0) = false ∧ a.length ≤ sizeLine then .ok (.tup [.str (Txt.partition a b).1, .str (Txt.partition a b).2.1, .str (Txt.partition a b).2.2]) S else .bad
  | _ => .bad
theorem mr_part : MtSR K (fun x xs H Q => ∃ a b, x = .str a ∧ xs = [.str b] ∧ (b.length == 0) = false ∧ a.length ≤ sizeLine ∧
    ∀ p, H p = none → Q (.ref p) (upd H p (.tup [.str (Txt.partition a b).1, .str (Txt.partition a b).2.1, .str (Txt.partition a b).2.2]))) partF := fun E H ι S z vs ds Q s h hf => by
  unfold partF at hf
  split at hf
  · rename_i b
    obtain ⟨v, rfl, h1⟩ := h.one
    cases h1
    split at hf
    · rename_i hh
      exact ⟨z, b, rfl, rfl, hh.1, hh.2, fi_tup s (.cons (.str _) (.cons (.str _) (.cons (.str _) .nil))) hf⟩
    · exact hf.elim
  · exact hf.elim
def joinF : Str → List D → Store → Res D := fun a ds S => match ds with
  | [d] => match seqOf S d with
    | some xs => match strsD xs with
      | some ys => if (ys.map (·.length)).sum + ys.length * a.length ≤ 16777216 then .ok (.str (Txt.join a ys)) S else .bad
      | none => .bad
    | none => .bad
  | _ => .bad
theorem mr_join : MtSR K (fun x xs H Q => ∃ a p, ∃ ys : List Str, x = .str a ∧ xs = [.ref p] ∧ (SqL K H p (ys.map V.str) ∨ SqT K H p (ys.map V.str)) ∧
    (ys.map (·.length)).sum + ys.length * a.length ≤ 16777216 ∧ Q (.str (Txt.join a ys)) H) joinF := fun E H ι S z vs ds Q s h hf => by
  unfold joinF at hf
  split at hf
  · rename_i d
    obtain ⟨v, rfl, h1⟩ := h.one
    split at hf
    · rename_i xs e
      split at hf
      · rename_i ys e2
        split at hf
        · obtain ⟨a, ws, rfl, h3, h4⟩ := seq_den s h1 e
          have e3 := strsD_den h4 e2
          subst e3
          exact ⟨z, a, ys, rfl, rfl, h3, by assumption, hf.here s (.str _)⟩
        · exact hf.elim
      · exact hf.elim
    · exact hf.elim
  · exact hf.elim

/-! numbered lists: append, pop, extend -/
theorem cell_lst {H : Hp} {ι : Ix} {S : Store} {n : Nat} {xs : List D} {v : V} (s : RepS K H ι S) (h : Den K H ι v (.loc n)) (e : S[n]? = some (.lst xs)) : ∃ a vs, v = .ref a ∧ ι.num[n]? = some (some a) ∧ H a = some (.lst vs) ∧ DenL K H ι vs xs := by
  cases h with
  | loc h =>
    obtain ⟨a, vs, e1, e2, e3⟩ := s.cell n _ _ h e
    cases e1
    exact ⟨_, vs, rfl, h, e2, e3⟩
theorem put_lst {H : Hp} {ι : Ix} {S : Store} {n : Nat} {a : Addr} {vs : List V} {xs : List D} (s : RepS K H ι S) (h : ι.num[n]? = some (some a)) (d : DenL K H ι vs xs) : RepS K (upd H a (.lst vs)) ι (S.set n (.lst xs)) :=
  s.put h ⟨a, vs, rfl, upd_same, DenL.ext (Ext.put h) _ d⟩ (.inl ⟨_, rfl⟩)
def appF : D → List D → Store → Res D := fun d ds S => match d, ds with
  | .loc n, [y] => match S[n]? with
    | some (.lst xs) => if xs.length < sizeLine then .ok .non (S.set n (.lst (xs ++ [y]))) else .bad
    | _ => .bad
  | _, _ => .bad
theorem mr_app : MtLR K rAppend appF := fun E H ι S v d vs ds Q s h1 h2 hf => by
  unfold appF at hf
  split at hf
  · rename_i n y
    split at hf
    · rename_i xs e
      split at hf
      · obtain ⟨a, ws, rfl, hi, hH, hw⟩ := cell_lst s h1 e
        obtain ⟨w, rfl, hy⟩ := h2.one
        exact ⟨a, ws, w, rfl, rfl, hH, by rw [hw.length]; assumption, hf .non _ ι (Ext.put hi) (put_lst s hi (hw.append (.cons hy .nil))) .non⟩
      · exact hf.elim
    · exact hf.elim
  · exact hf.elim
def extF : D → List D → Store → Res D := fun d ds S => match d, ds with
  | .loc n, [e] => match S[n]?, lstOf S e with
    | some (.lst xs), some ys => if xs.length + ys.length ≤ sizeLine then .ok .non (S.set n (.lst (xs ++ ys))) else .bad
    | _, _ => .bad
  | _, _ => .bad
def popF : D → Store → Res D := fun d S => match d with
  | .loc n => match S[n]? with
    | some (.lst xs) => match xs[xs.length - 1]? with
      | some y => .ok y (S.set n (.lst xs.dropLast))
      | none => .bad
    | _ => .bad
  | _ => .bad
def mMtL0 (f : D → Store → Res D) (o : EM) : EM := fun ρ S => (o ρ S).bind fun x S1 => if (lstOf S1 x).isSome = true then f x S1 else .bad
theorem pm_pop (ho : PE X o (tE X.K W mo)) (hbase : attributeBase o "pop" X.env (eval o X.env) = eval o X.env := by rfl) (hline : (apos.endLine == pos.line) = true := by rfl) :
    PE X (.Call (.Attribute o "pop" apos) [] [] pos) (tE X.K W (mOp1 popF mo)) :=
  pe_weak (pe_bm0 PySem.F.plainAttrs_list PySem.F.slot_list_pop PySem.F.type_list_pop mt_pop ho hbase hline) fun σ H Q h => by
    obtain ⟨ρ, S, ι, he, hs, h⟩ := tGen.bind (R := Den X.K) (k := fun _ x S1 => popF x S1) h
    refine ⟨ρ, S, ι, he, hs, h.mono fun v H1 ⟨ρ1, ι1, x, S1, e1, s1, d1, h1⟩ => ?_⟩
    unfold popF at h1
    split at h1
    · rename_i n
      split at h1
      · rename_i xs e
        split at h1
        · rename_i y ey
          obtain ⟨a, ws, rfl, hi, hH, hw⟩ := cell_lst s1 d1 e
          obtain ⟨w, ew, hy⟩ := hw.get ey
          exact ⟨.inl ⟨rfl, ws, .inl (.inl hH)⟩, a, ws, w, rfl, rfl, hH, by rw [hw.length]; exact ew, h1 w _ ι1 (Ext.put hi) (put_lst s1 hi hw.dropLast) (Den.ext (Ext.put hi) _ hy)⟩
        · exact h1.elim
      · exact h1.elim
    · exact h1.elim
end
end MD

set_option maxHeartbeats 4000000
namespace MD
open PySem PySem.Spec PyProof.Rows L2

/-! ### statements -/
/-- an expression first -/
def sDo {α : Type} (r : Res α) (ρ : MD.Env) (k : α → Store → SR) : SR := match r with
  | .ok a S => k a S
  | .exc x S => .exc x ρ S
  | .bad => .bad
@[simp] def sNx : SM := fun ρ S => .nx ρ S
def sBk : SM := fun ρ S => .bk ρ S
def sCt : SM := fun ρ S => .ct ρ S
@[simp] def sSeq (a b : SM) : SM := fun ρ S => match a ρ S with
  | .nx ρ1 S1 => b ρ1 S1
  | r => r
@[simp] def sSet (e : EM) (i : Nat) : SM := fun ρ S => sDo (e ρ S) ρ fun d S1 => .nx (ρ.set i (some d)) S1
@[simp] def sExp (e : EM) : SM := fun ρ S => sDo (e ρ S) ρ fun _ S1 => .nx ρ S1
@[simp] def sRet (e : EM) : SM := fun ρ S => sDo (e ρ S) ρ fun d S1 => .rt d S1
@[simp] def sRetN : SM := fun _ S => .rt .non S
@[simp] def sIf (c : BM) (a b : SM) : SM := fun ρ S => sDo (c ρ S) ρ fun k S1 => if k = true then a ρ S1 else b ρ S1
section
variable {X : Cx} {W : WX} {K : PySem.W.Frag} {B : Base}
theorem tS_do {α β : Type} {R : Hp → Ix → β → α → Prop} {m : MD.Env → Store → Res α} {k : MD.Env → α → Store → SR} {D : Ends} {σ : L2.St} {H : Hp} (h : tS K W B (fun ρ S => sDo (m ρ S) ρ (k ρ)) D σ H) :
    tGen K W R m σ H (fun v H1 => ∃ ρ ι1 a S1, Sta K B σ ρ H1 ι1 S1 ∧ R H1 ι1 v a ∧ Fs K W B (k ρ a S1) D) := by
  obtain ⟨ρ, S, ι, st, hf⟩ := h
  refine ⟨ρ, S, ι, st.e, st.s, ?_⟩
  cases q : m ρ S with
  | ok a S1 =>
    simp only [q, sDo] at hf
    exact fun v H' ι' e s d => ⟨ρ, ι', a, S1, ⟨st.e.ext e, s, st.b.trans e⟩, d, hf⟩
  | exc x S1 =>
    simp only [q, sDo] at hf
    exact fun cls dd H' ι' e s d => hf σ H' ι' cls dd ⟨st.e.ext e, s, st.b.trans e⟩ d
  | bad =>
    simp only [q, sDo] at hf
    exact hf.elim
theorem tGen_mono {α β : Type} {R : Hp → Ix → β → α → Prop} {m : MD.Env → Store → Res α} {σ : L2.St} {H : Hp} {Q Q' : β → Hp → Prop} (h : tGen K W R m σ H Q) (q : ∀ v H', Q v H' → Q' v H') : tGen K W R m σ H Q' := by
  obtain ⟨ρ, S, ι, h1, h2, h⟩ := h
  exact ⟨ρ, S, ι, h1, h2, h.mono q⟩
theorem Fs.nx_here {ρ : MD.Env} {S : Store} {D : Ends} {σ : L2.St} {H : Hp} {ι : Ix} (h : Fs K W B (.nx ρ S) D) (s : Sta K B σ ρ H ι S) : D.nx σ H := h σ H ι s
theorem Sta.set {σ : L2.St} {ρ : MD.Env} {H : Hp} {ι : Ix} {S : Store} {v : V} {d : D} (s : Sta K B σ ρ H ι S) (i : Nat) (h : Den K H ι v d) : Sta K B (σ.set i (some v)) (ρ.set i (some d)) H ι S := ⟨s.e.set i h, s.s, s.b⟩
theorem Sta.next {σ : L2.St} {ρ : MD.Env} {H H' : Hp} {ι ι' : Ix} {S S' : Store} (s : Sta K B σ ρ H ι S) (e : Ext H ι H' ι') (r : RepS K H' ι' S') : Sta K B σ ρ H' ι' S' := ⟨s.e.ext e, r, s.b.trans e⟩
/-- from a tS on, by the state -/
theorem Fs.tS {m : SM} {D : Ends} {σ : L2.St} {ρ : MD.Env} {H : Hp} {ι : Ix} {S : Store} (s : Sta K B σ ρ H ι S) (h : Fs K W B (m ρ S) D) : tS K W B m D σ H := ⟨ρ, S, ι, s, h⟩

variable {e : Expr} {me : EM} {pos : Pos} {st : Stmt} {sts : List Stmt} {m m' : SM}
theorem pms_nil : PSs X [] (tS X.K W B sNx) := pss_weak pss_nil fun D σ H ⟨ρ, S, ι, s, h⟩ => h σ H ι s
theorem rd_seq {D : Ends} {σ : L2.St} {H : Hp} (h : tS K W B (sSeq m m') D σ H) : tSeq (tS K W B m) (tS K W B m') D σ H := by
  obtain ⟨ρ, S, ι, s, h⟩ := h
  refine ⟨ρ, S, ι, s, ?_⟩
  unfold sSeq at h
  cases q : m ρ S with
  | nx ρ1 S1 => simp only [q] at h; exact fun σ' H' ι' s' => ⟨ρ1, S1, ι', s', h⟩
  | rt d S1 => simp only [q] at h; exact h
  | bk ρ1 S1 => simp only [q] at h; exact h
  | ct ρ1 S1 => simp only [q] at h; exact h
  | exc x ρ1 S1 => simp only [q] at h; exact h
  | bad => simp only [q] at h; exact h
theorem pms_cons (h1 : PS X st (tS X.K W B m)) (h2 : PSs X sts (tS X.K W B m')) : PSs X (st :: sts) (tS X.K W B (sSeq m m')) := pss_weak (pss_cons h1 h2) fun _ _ _ h => rd_seq h
theorem pms_one (h1 : PS X st (tS X.K W B m)) : PSs X [st] (tS X.K W B m) := pss_one h1
theorem pm_pass : PS X (.Pass pos) (tS X.K W B sNx) := ps_weak ps_pass fun D σ H ⟨ρ, S, ι, s, h⟩ => h σ H ι s
theorem pm_brk : PS X (.Break pos) (tS X.K W B sBk) := ps_weak ps_break fun D σ H ⟨ρ, S, ι, s, h⟩ => h σ H ι s
theorem pm_cnt : PS X (.Continue pos) (tS X.K W B sCt) := ps_weak ps_continue fun D σ H ⟨ρ, S, ι, s, h⟩ => h σ H ι s
theorem pm_doc {x j p p'} : PS X (.Expr (.Constant (.str x) j p) p') (tS X.K W B sNx) := ps_weak ps_doc fun D σ H ⟨ρ, S, ι, s, h⟩ => h σ H ι s
theorem pm_set (i : Nat) {x : Str} {pos' : Pos} (hN : X.N.Nodup) (he : PE X e (tE X.K W me)) (hi : X.N[i]? = some x := by rfl) (hx : Loc X.env.scope x := by first | exact Or.inl rfl | exact Or.inr rfl) (hs : swapsWith e (some (.Name x pos')) pos.line X.env = pure false := by rfl) (hf : X.fn x = true ∨ X.env.scope.names.lookup x = some .local := by first | exact .inl rfl | exact .inr rfl | assumption) :
    PS X (.Assign [.Name x pos'] e pos) (tS X.K W B (sSet me i)) := ps_weak (ps_set hN hi hx he hs hf) fun D σ H h => by
  obtain ⟨ρ, S, ι, h1, h2, h⟩ := tS_do (R := Den X.K) (k := fun ρ d S1 => .nx (ρ.set i (some d)) S1) h
  exact ⟨ρ, S, ι, h1, h2, h.mono fun v H1 ⟨ρ1, ι1, d, S1, s, dd, f⟩ => f _ _ _ (s.set i dd)⟩
theorem pm_exp (he : PE X e (tE X.K W me)) (hs : swapsWith e none pos.line X.env = pure false := by rfl) : PS X (.Expr e pos) (tS X.K W B (sExp me)) := ps_weak (ps_expr he hs) fun D σ H h => by
  obtain ⟨ρ, S, ι, h1, h2, h⟩ := tS_do (R := Den X.K) (k := fun ρ _ S1 => .nx ρ S1) h
  exact ⟨ρ, S, ι, h1, h2, h.mono fun v H1 ⟨ρ1, ι1, d, S1, s, dd, f⟩ => f _ _ _ s⟩
theorem pm_ret (he : PE X e (tE X.K W me)) : PS X (.Return (some e) pos) (tS X.K W B (sRet me)) := ps_weak (ps_ret he) fun D σ H h => by
  obtain ⟨ρ, S, ι, h1, h2, h⟩ := tS_do (R := Den X.K) (k := fun _ d S1 => .rt d S1) h
  exact ⟨ρ, S, ι, h1, h2, h.mono fun v H1 ⟨ρ1, ι1, d, S1, s, dd, f⟩ => f v H1 ι1 s.s s.b dd⟩
theorem pm_retN : PS X (.Return none pos) (tS X.K W B sRetN) := ps_weak ps_retN fun D σ H ⟨ρ, S, ι, s, h⟩ => h .non H ι s.s s.b .non
theorem pm_ifS {c : Expr} {a b : List Stmt} {mc : BM} {ma mb : SM} (hc : PT X c (tT X.K W mc)) (ha : PSs X a (tS X.K W B ma)) (hb : PSs X b (tS X.K W B mb)) : PS X (.If c a b pos) (tS X.K W B (sIf mc ma mb)) := ps_weak (ps_if hc ha hb) fun D σ H h => by
  obtain ⟨ρ, S, ι, h1, h2, h⟩ := tS_do (R := fun _ _ (v : Bool) a => v = a) (k := fun ρ k S1 => if k = true then ma ρ S1 else mb ρ S1) h
  refine ⟨ρ, S, ι, h1, h2, h.mono fun v H1 ⟨ρ1, ι1, d, S1, s, dd, f⟩ => ?_⟩
  subst dd
  cases v with
  | true => exact f.tS s
  | false => exact f.tS s
/-- a, b = x, y -/
@[simp] def sPar (i j : Nat) (t : AM) : SM := fun ρ S => sDo (t ρ S) ρ fun ds S1 => match ds with
  | [d, e] => .nx ((ρ.set i (some d)).set j (some e)) S1
  | _ => .bad
theorem pm_par (i j : Nat) {x y : Str} {a b : Expr} {t : AM} {px py pt : Pos} {kt k2 pt2} (hc : X.calm = true) (hN : X.N.Nodup) (ha : PA X [a, b] (tA X.K W t)) (hi : X.N[i]? = some x := by rfl) (hj : X.N[j]? = some y := by rfl) (hij : i ≠ j := by decide)
    (hx : X.env.scope.names.lookup x = some .local := by rfl) (hy : X.env.scope.names.lookup y = some .local := by rfl)
    (hw : swappedStores [.Tuple [.Name x px, .Name y py] kt pt] (.Tuple [a, b] k2 pt2) X.env = pure (some [x, y]) := by rfl)
    (hs : swapsWithSole [.Tuple [.Name x px, .Name y py] kt pt] (.Tuple [a, b] k2 pt2) pos.line X.env = pure false := by rfl) :
    PS X (.Assign [.Tuple [.Name x px, .Name y py] kt pt] (.Tuple [a, b] k2 pt2) pos) (tS X.K W B (sPar i j t)) := ps_weak (ps_par hc hN hi hj hij hx hy ha hw hs) fun D σ H h => by
  obtain ⟨ρ, S, ι, h1, h2, h⟩ := tS_do (R := DenL X.K) (k := fun ρ ds S1 => match ds with
    | [d, e] => .nx ((ρ.set i (some d)).set j (some e)) S1
    | _ => .bad) h
  refine ⟨ρ, S, ι, h1, h2, h.mono fun vs H1 ⟨ρ1, ι1, ds, S1, s, dd, f⟩ => ?_⟩
  match ds, dd, f with
  | [d, e], dd, f =>
    obtain ⟨v, w, rfl, q1, q2⟩ := dd.two
    exact ⟨v, w, rfl, f _ _ _ ((s.set i q1).set j q2)⟩
  | [], _, f => exact f.elim
  | [_], _, f => exact f.elim
  | _ :: _ :: _ :: _, _, f => exact f.elim

/-! ### targets -/
abbrev GM := D → MD.Env → Store → Option MD.Env
abbrev GsM := List D → MD.Env → Store → Option MD.Env
@[simp] def gN (i : Nat) : GM := fun d ρ _ => some (ρ.set i (some d))
@[simp] def gsN : GsM := fun ds ρ _ => match ds with
  | [] => some ρ
  | _ => none
@[simp] def gsC (g : GM) (r : GsM) : GsM := fun ds ρ S => match ds with
  | d :: ds => match g d ρ S with
    | some ρ1 => r ds ρ1 S
    | none => none
  | [] => none
@[simp] def gT (g : GsM) : GM := fun d ρ S => match d with
  | .tup xs => g xs ρ S
  | _ => none
def gL (g : GsM) : GM := fun d ρ S => match lstOf S d with
  | some xs => g xs ρ S
  | none => none
/-- a target: m tells the slots behind it; only those at sl are written -/
structure PMg (X : Cx) (tg : Expr) (m : GM) (sl : List Nat) : Prop where
  ex : ∃ t, PG X tg t ∧ ∀ (v : V) (d : D) (σ : L2.St) (ρ ρ' : MD.Env) (H : Hp) (ι : Ix) (S : Store) (Q : L2.St → Hp → Prop), Den X.K H ι v d → RepE X.K H ι σ ρ → RepS X.K H ι S → m d ρ S = some ρ' →
    (∀ σ', RepE X.K H ι σ' ρ' → σ'.length = σ.length → (∀ i, i ∉ sl → σ'[i]? = σ[i]?) → Q σ' H) → t v σ H Q
structure PMgs (X : Cx) (tgs : List Expr) (m : GsM) (sl : List Nat) : Prop where
  ex : ∃ t, PGs X tgs t ∧ ∀ (vs : List V) (ds : List D) (σ : L2.St) (ρ ρ' : MD.Env) (H : Hp) (ι : Ix) (S : Store) (Q : L2.St → Hp → Prop), DenL X.K H ι vs ds → RepE X.K H ι σ ρ → RepS X.K H ι S → m ds ρ S = some ρ' →
    (∀ σ', RepE X.K H ι σ' ρ' → σ'.length = σ.length → (∀ i, i ∉ sl → σ'[i]? = σ[i]?) → Q σ' H) → t vs σ H Q
variable {tg : Expr} {tgs : List Expr} {g : GM} {gs : GsM} {sl sl' : List Nat}
theorem pmg_name (i : Nat) {x : Str} (hN : X.N.Nodup) (hi : X.N[i]? = some x := by rfl) (hx : Loc X.env.scope x := by first | exact Or.inl rfl | exact Or.inr rfl) (hf : X.fn x = true ∨ X.env.scope.names.lookup x = some .local := by first | exact .inl rfl | exact .inr rfl | assumption) : PMg X (.Name x pos) (gN i) [i] :=
  ⟨_, pg_name hN hi hx hf, fun v d σ ρ ρ' H ι S Q h1 h2 h3 e q => by
    cases e
    exact q _ (h2.set i h1) (by simp) fun j hj => List.getElem?_set_ne (fun z => hj (by simp [z]))⟩
theorem pmgs_nil : PMgs X [] gsN [] := ⟨_, pgs_nil, fun vs ds σ ρ ρ' H ι S Q h1 h2 h3 e q => by
  match ds, h1, e with
  | [], h1, e => cases h1; cases e; exact ⟨rfl, q σ h2 rfl fun _ _ => rfl⟩⟩
theorem pmgs_cons (h1 : PMg X tg g sl) (h2 : PMgs X tgs gs sl') (hs : (assignEach (tg :: tgs) X.env).map (·.2) = assign tg X.env :: (assignEach tgs X.env).map (·.2) := by rfl) : PMgs X (tg :: tgs) (gsC g gs) (sl ++ sl') := by
  obtain ⟨t, p, q⟩ := h1.ex
  obtain ⟨t', p', q'⟩ := h2.ex
  refine ⟨_, pgs_cons p p' hs, fun vs ds σ ρ ρ' H ι S Q hd he hS e hq => ?_⟩
  unfold gsC at e
  match ds, hd, e with
  | d :: ds, hd, e =>
    cases hd with
    | cons d1 d2 =>
      cases z : g d ρ S with
      | none => simp only [z] at e; cases e
      | some ρ1 =>
        simp only [z] at e
        refine ⟨_, _, rfl, q _ d σ ρ ρ1 H ι S _ d1 he hS z fun σ1 he1 l1 k1 => q' _ ds σ1 ρ1 ρ' H ι S _ d2 he1 hS e fun σ2 he2 l2 k2 => hq σ2 he2 (l2.trans l1) fun i hi => ?_⟩
        rw [k2 i fun m => hi (List.mem_append_right _ m), k1 i fun m => hi (List.mem_append_left _ m)]
  | [], _, e => cases e
theorem pmg_tup {k : Nat} {n : Nat} (hc : X.calm = true) (h : PMgs X tgs gs sl) (hl : ∀ ds ρ S ρ', gs ds ρ S = some ρ' → ds.length = n) (hn : (assignEach tgs X.env).length = n := by rfl) (hst : (assignEach tgs X.env).findIdx? (·.1) = none := by rfl) : PMg X (.Tuple tgs k pos) (gT gs) sl := by
  obtain ⟨t, p, q⟩ := h.ex
  refine ⟨_, pg_tup hc p hn hst, fun v d σ ρ ρ' H ι S Q hd he hS e hq => ?_⟩
  unfold gT at e
  cases d with
  | tup xs =>
    cases hd with
    | @tup a vs _ h1 h2 => exact ⟨a, vs, rfl, h1.sq, by rw [h2.length]; exact hl _ _ _ _ e, q vs xs σ ρ ρ' H ι S Q h2 he hS e hq⟩
  | _ => cases e
theorem pmg_lst {k : Nat} {n : Nat} (hc : X.calm = true) (h : PMgs X tgs gs sl) (hl : ∀ ds ρ S ρ', gs ds ρ S = some ρ' → ds.length = n) (hn : (assignEach tgs X.env).length = n := by rfl) (hst : (assignEach tgs X.env).findIdx? (·.1) = none := by rfl) : PMg X (.Tuple tgs k pos) (gL gs) sl := by
  obtain ⟨t, p, q⟩ := h.ex
  refine ⟨_, pg_unl hc p hn hst, fun v d σ ρ ρ' H ι S Q hd he hS e hq => ?_⟩
  unfold gL at e
  cases z : lstOf S d with
  | none => simp only [z] at e; cases e
  | some xs =>
    simp only [z] at e
    obtain ⟨a, vs, rfl, h1, h2, _⟩ := lst_den hS hd z
    exact ⟨a, vs, rfl, .inl h1, by rw [h2.length]; exact hl _ _ _ _ e, q vs xs σ ρ ρ' H ι S Q h2 he hS e hq⟩
/-- how many items such a target takes -/
theorem gs_len0 {ds : List D} {ρ ρ' : MD.Env} {S : Store} (h : gsN ds ρ S = some ρ') : ds.length = 0 := by
  cases ds with
  | nil => rfl
  | cons => cases h
theorem gs_lenS {n : Nat} {g : GM} {gs : GsM} (hl : ∀ ds ρ S ρ', gs ds ρ S = some ρ' → ds.length = n) (ds : List D) (ρ : MD.Env) (S : Store) (ρ' : MD.Env) (h : gsC g gs ds ρ S = some ρ') : ds.length = n + 1 := by
  unfold gsC at h
  cases ds with
  | nil => cases h
  | cons d ds =>
    dsimp only at h
    split at h
    · simp [hl _ _ _ _ h]
    · cases h
/-- target = e -/
@[simp] def sAsg (e : EM) (g : GM) : SM := fun ρ S => sDo (e ρ S) ρ fun d S1 => match g d ρ S1 with
  | some ρ1 => .nx ρ1 S1
  | none => .bad
theorem pm_asg (he : PE X e (tE X.K W me)) (hg : PMg X tg g sl) (hs : swapsWithSole [tg] e pos.line X.env = pure false := by rfl) (hw : swappedStores [tg] e X.env = pure none := by rfl)
    (h1 : (assignEach [tg] X.env).map (·.2) = [assign tg X.env] := by rfl) : PS X (.Assign [tg] e pos) (tS X.K W B (sAsg me g)) := by
  obtain ⟨t, p, q⟩ := hg.ex
  refine ps_weak (ps_asg he p hs hw h1) fun D σ H h => ?_
  obtain ⟨ρ, S, ι, h1, h2, h⟩ := tS_do (R := Den X.K) (k := fun ρ d S1 => match g d ρ S1 with
    | some ρ1 => .nx ρ1 S1
    | none => .bad) h
  refine ⟨ρ, S, ι, h1, h2, h.mono fun v H1 ⟨ρ1, ι1, d, S1, s, dd, f⟩ => ?_⟩
  split at f
  · rename_i ρ2 z
    exact q v d σ ρ1 ρ2 H1 ι1 S1 _ dd s.e s.s z fun σ' he' _ _ => f _ _ _ ⟨he', s.s, s.b⟩
  · exact f.elim

/-! ### stores: xs[k] = e, o.f = e -/
def putF2 : D → D → D → Store → Option Store := fun o k v S => match o, k with
  | .loc n, .int i => match S[n]? with
    | some (.lst xs) => match ixN xs.length i with
      | some j => some (S.set n (.lst (xs.set j v)))
      | none => none
    | _ => none
  | _, _ => none
@[simp] def sPut (o k e : EM) : SM := fun ρ S => sDo (e ρ S) ρ fun d S1 => sDo (o ρ S1) ρ fun x S2 => sDo (k ρ S2) ρ fun y S3 => match putF2 x y d S3 with
  | some S4 => .nx ρ S4
  | none => .bad
theorem Sta.do {α β : Type} {R : Hp → Ix → β → α → Prop} {m : MD.Env → Store → Res α} {k : MD.Env → α → Store → SR} {D : Ends} {σ : L2.St} {ρ : MD.Env} {H : Hp} {ι : Ix} {S : Store} (s : Sta K B σ ρ H ι S) (h : Fs K W B (sDo (m ρ S) ρ (k ρ)) D) :
    tGen K W R m σ H (fun v H1 => ∃ ι1 a S1, Sta K B σ ρ H1 ι1 S1 ∧ Ext H ι H1 ι1 ∧ R H1 ι1 v a ∧ Fs K W B (k ρ a S1) D) := by
  refine ⟨ρ, S, ι, s.e, s.s, ?_⟩
  cases q : m ρ S with
  | ok a S1 =>
    simp only [q, sDo] at h
    exact fun v H' ι' e r d => ⟨ι', a, S1, s.next e r, e, d, h⟩
  | exc x S1 =>
    simp only [q, sDo] at h
    exact fun cls dd H' ι' e r d => h σ H' ι' cls dd (s.next e r) d
  | bad =>
    simp only [q, sDo] at h
    exact h.elim
theorem pm_put {o i : Expr} {mo mi : EM} {p' : Pos} (he : PE X e (tE X.K W me)) (ho : PE X o (tE X.K W mo)) (hi : PE X i (tE X.K W mi)) (hs : swapsWithSole [.Subscript o i p'] e pos.line X.env = pure false := by rfl) (hw : swappedStores [.Subscript o i p'] e X.env = pure none := by rfl)
    (h1 : (assignEach [.Subscript o i p'] X.env).map (·.2) = [assign (.Subscript o i p') X.env] := by rfl)
    (ha : ∀ v, assign (.Subscript o i p') X.env v = (do
      let ov ← holding [v] (eval o X.env)
      let iv ← holding [v, ov] (eval i X.env)
      standAt p'
      holding [v, ov, iv] (setItem ov iv v)
      release [v, ov, iv] []) := by intro _; rfl) : PS X (.Assign [.Subscript o i p'] e pos) (tS X.K W B (sPut mo mi me)) := by
  refine ps_weak (ps_asg he (pg_sub ho hi set_list ha) hs hw h1) fun D σ H ⟨ρ, S, ι, st, h⟩ => ?_
  refine tGen_mono (st.do (R := Den X.K) (k := fun ρ d S1 => sDo (mo ρ S1) ρ fun x S2 => sDo (mi ρ S2) ρ fun y S3 => match putF2 x y d S3 with
    | some S4 => .nx ρ S4
    | none => .bad) h) fun v H1 ⟨ι1, d, S1, s1, x1, d1, f1⟩ => ?_
  refine tGen_mono (s1.do (R := Den X.K) (k := fun ρ x S2 => sDo (mi ρ S2) ρ fun y S3 => match putF2 x y d S3 with
    | some S4 => .nx ρ S4
    | none => .bad) f1) fun w H2 ⟨ι2, x, S2, s2, x2, d2, f2⟩ => ?_
  refine tGen_mono (s2.do (R := Den X.K) (k := fun ρ y S3 => match putF2 x y d S3 with
    | some S4 => .nx ρ S4
    | none => .bad) f2) fun u H3 ⟨ι3, y, S3, s3, x3, d3, f3⟩ => ?_
  split at f3
  · rename_i S4 z
    unfold putF2 at z
    split at z
    · rename_i n j _
      split at z
      · rename_i xs e1
        split at z
        · rename_i jj e2
          cases z
          cases d3
          obtain ⟨a, vs, rfl, hi', hH, hw⟩ := cell_lst s3.s (Den.ext x3 _ d2) e1
          refine ⟨a, vs, j, jj, rfl, rfl, hH, by rw [hw.length]; exact e2, f3 _ _ _ (s3.next (Ext.put hi') (put_lst s3.s hi' (hw.set (Den.ext x3 _ (Den.ext x2 _ d1)) jj)))⟩
        · cases z
      · cases z
    · cases z
  · exact f3.elim
def sFld (cs : List Addr) (f : Str) (o e : EM) : SM := fun ρ S => sDo (e ρ S) ρ fun d S1 => sDo (o ρ S1) ρ fun x S2 => match x with
  | .loc n => match S2[n]? with
    | some (.ins C fs) => if C ∈ cs ∧ fs.length < 1000 then .nx ρ (S2.set n (.ins C (putD f d fs))) else .bad
    | _ => .bad
  | _ => .bad
theorem pm_sfld {cs : List Addr} {f : Str} {o : Expr} {mo : EM} {p' : Pos} (O : FldOk X.K cs f) (he : PE X e (tE X.K W me)) (ho : PE X o (tE X.K W mo)) (hs : swapsWith e (some (.Attribute o f p')) pos.line X.env = pure false := by rfl) : PS X (.Assign [.Attribute o f p'] e pos) (tS X.K W B (sFld cs f mo me)) := by
  refine ps_weak (ps_fld ho he hs) fun D σ H ⟨ρ, S, ι, st, h⟩ => ?_
  refine tGen_mono (st.do (R := Den X.K) (k := fun ρ d S1 => sDo (mo ρ S1) ρ fun x S2 => match x with
    | .loc n => match S2[n]? with
      | some (.ins C fs) => if C ∈ cs ∧ fs.length < 1000 then .nx ρ (S2.set n (.ins C (putD f d fs))) else .bad
      | _ => .bad
    | _ => .bad) h) fun v H1 ⟨ι1, d, S1, s1, x1, d1, f1⟩ => ?_
  refine tGen_mono (s1.do (R := Den X.K) (k := fun ρ x S2 => match x with
    | .loc n => match S2[n]? with
      | some (.ins C fs) => if C ∈ cs ∧ fs.length < 1000 then .nx ρ (S2.set n (.ins C (putD f d fs))) else .bad
      | _ => .bad
    | _ => .bad) f1) fun w H2 ⟨ι2, x, S2, s2, x2, d2, f2⟩ => ?_
  split at f2
  · rename_i n
    split at f2
    · rename_i C fs q
      split at f2
      · rename_i hC
        cases d2 with
        | loc d2 =>
          obtain ⟨b, dx, fv, e1, e2, e3, e4, e5, e6⟩ := s2.s.cell n _ _ d2 q
          cases e1
          obtain ⟨r1, r2⟩ := putD_den (f := f) (Den.ext x2 _ d1) e5 e6
          have hl : fv.length = fs.length := by simpa using congrArg List.length e5
          refine ⟨_, C, dx, fv, rfl, e2, O.cl C hC.1, O.no C hC.1, by rw [hl]; exact hC.2, f2 _ _ _ (s2.next (Ext.put d2) (s2.s.put d2 ⟨_, dx, _, rfl, upd_same, ?_, ?_, r1, DenL.ext (Ext.put d2) _ r2⟩ (.inr (.inl ⟨_, _, _, rfl⟩))))⟩
          · rw [upd_ne fun z => by rw [z, e2] at e3; cases e3]; exact e3
          · exact e4
      · exact f2.elim
    · exact f2.elim
  · exact f2.elim
end
end MD

set_option maxHeartbeats 4000000
namespace MD
open PySem PySem.Spec PyProof.Rows L2

/-! ### what a loop walks -/
/-- the items; what must stay true of the store -/
structure ItD where
  xs : List D
  ck : Store → Bool
abbrev IM := MD.Env → Store → Res ItD
/-- J, from H on, walks the items -/
structure Walk (K : PySem.W.Frag) (J : It) (p : ItD) (H1 : Hp) (ι1 : Ix) : Prop where
  go : ∀ (i : Nat) (d : D) (H : Hp) (ι : Ix) (S : Store), Ext0 H1 ι1 H ι → RepS K H ι S → p.ck S = true → p.xs[i]? = some d → J.go i H ∧ ∀ x H', J.yld i H x H' → Ext H ι H' ι ∧ RepS K H' ι S ∧ Den K H' ι x d
  stop : ∀ (i : Nat) (H : Hp) (ι : Ix) (S : Store), Ext0 H1 ι1 H ι → RepS K H ι S → p.ck S = true → p.xs.length ≤ i → J.stop i H
abbrev tI (K : PySem.W.Frag) (W : WX) (m : IM) : L2.St → Hp → (It → Hp → Prop) → Prop := tGen K W (fun H ι J a => Walk K J a H ι) m
structure PMi (X : Cx) (W : WX) (tg e : Expr) (m : IM) : Prop where
  ex : ∃ wi, PI X tg e wi ∧ ∀ σ H R, tI X.K W m σ H R → wi σ H R
section
variable {X : Cx} {W : WX} {K : PySem.W.Frag} {B : Base} {tg : Expr}
/-- a list or a tuple -/
def iSeq (K : PySem.W.Frag) (tl : TE) : TI := fun σ H R => tl σ H fun x H1 => ∃ a, x = .ref a ∧ (((∃ xs, SqL K H1 a xs) ∧ R (Itl K a) H1) ∨ ((∃ xs, SqT K H1 a xs) ∧ R (Itt K a) H1))
theorem pi_seq {l : Expr} {tl : TE} (hl : PE X l tl) : PI X tg l (iSeq X.K tl) := by
  refine ⟨fun pins s σ H R I h => thn (hl.run pins s σ H _ I h) fun v s1 ⟨x, H1, I1, r1, q1⟩ => ?_⟩
  obtain ⟨a, rfl, ⟨⟨xs, hq⟩, q⟩ | ⟨⟨xs, hq⟩, q⟩⟩ := q1
  · cases r1
    obtain ⟨its, rv, p, hz⟩ := I1.list hq
    refine wpAny_pyIter_list p.isList ⟨s1.heap.objs.size, [s1.heap.objs.size], _, _, H1, rfl, I1.kept (t' := s1.toks) fun b o e => Heap.get?_push_of_some _ e, turn_list a _, ⟨_, Heap.get?_push_size _ rfl, rfl, rfl⟩, fun b hb => ?_, q⟩
    obtain rfl : b = s1.heap.objs.size := by simpa using hb
    exact I1.fpOk (Nat.le_refl _) (I1.hok.fresh (Nat.le_refl _))
  · cases r1
    obtain ⟨its, rv, p, hz⟩ := I1.tuple hq
    refine wpAny_pyIter_tuple (show s1.heap.IsTuple a its.toArray from p) ⟨s1.heap.objs.size, [s1.heap.objs.size], _, _, H1, rfl, I1.kept (t' := s1.toks) fun b o e => Heap.get?_push_of_some _ e, turn_tuple a _, ⟨_, Heap.get?_push_size _ rfl, rfl, rfl⟩, fun b hb => ?_, q⟩
    obtain rfl : b = s1.heap.objs.size := by simpa using hb
    exact I1.fpOk (Nat.le_refl _) (I1.hok.fresh (Nat.le_refl _))
/-- the items of a value: a list that is numbered must stay as it is -/
def ckOf : D → List D → Store → Bool
  | .loc n, xs, S => decide (S[n]? = some (.lst xs))
  | _, _, _ => true
@[simp] def itF (d : D) (S : Store) : Res ItD := match seqOf S d with
  | some xs => .ok ⟨xs, ckOf d xs⟩ S
  | none => .bad
/-- the list behind a value, in each later state -/
theorem ck_lst {H H1 : Hp} {ι ι1 : Ix} {S1 : Store} {a : Addr} {d : D} {xs : List D} {S : Store} (h : Den K H ι (.ref a) d) (e : lstOf S d = some xs) (x : Ext0 H ι H1 ι1) (s1 : RepS K H1 ι1 S1) (c : ckOf d xs S1 = true) : ∃ vs, SqL K H1 a vs ∧ DenL K H1 ι1 vs xs := by
  cases d with
  | lst ys =>
    cases e
    have h' := Den.ext0 x _ h
    cases h' with
    | lst h1 h2 => exact ⟨_, .inl h1.1, h2⟩
  | loc n =>
    have h' := Den.ext0 x _ h
    have c' : S1[n]? = some (.lst xs) := of_decide_eq_true c
    obtain ⟨b, vs, e1, _, e3, e4⟩ := cell_lst s1 h' c'
    cases e1
    exact ⟨vs, .inl (.inl e3), e4⟩
  | _ => cases e
theorem walk_lst {H : Hp} {ι : Ix} {a : Addr} {d : D} {xs : List D} {S : Store} (h : Den K H ι (.ref a) d) (e : lstOf S d = some xs) : Walk K (Itl K a) ⟨xs, ckOf d xs⟩ H ι where
  go := fun i y H1 ι1 S1 x s1 c hi => by
    obtain ⟨vs, h1, h2⟩ := ck_lst h e x s1 c
    obtain ⟨v, hv, hd⟩ := h2.get hi
    refine ⟨⟨vs, v, h1, hv⟩, fun w H' hy => ?_⟩
    obtain ⟨rfl, hy⟩ := hy
    have := hy vs h1
    rw [hv] at this
    cases this
    exact ⟨Ext.refl _ _, s1, hd⟩
  stop := fun i H1 ι1 S1 x s1 c hi => by
    obtain ⟨vs, h1, h2⟩ := ck_lst h e x s1 c
    exact ⟨vs, h1, by rw [h2.length]; exact hi⟩
theorem walk_tup {H : Hp} {ι : Ix} {a : Addr} {xs : List D} {ck : Store → Bool} (h : Den K H ι (.ref a) (.tup xs)) : Walk K (Itt K a) ⟨xs, ck⟩ H ι where
  go := fun i y H1 ι1 S1 x s1 c hi => by
    have h' := Den.ext0 x _ h
    cases h' with
    | @tup _ vs _ h1 h2 =>
      obtain ⟨v, hv, hd⟩ := h2.get hi
      refine ⟨⟨vs, v, h1.sq, hv⟩, fun w H' hy => ?_⟩
      obtain ⟨rfl, hy⟩ := hy
      have := hy vs h1.sq
      rw [hv] at this
      cases this
      exact ⟨Ext.refl _ _, s1, hd⟩
  stop := fun i H1 ι1 S1 x s1 c hi => by
    have h' := Den.ext0 x _ h
    cases h' with
    | @tup _ vs _ h1 h2 => exact ⟨vs, h1.sq, by rw [h2.length]; exact hi⟩
variable {e : Expr} {me : EM} {p pos : Pos} {t : AM}
@[simp] def mIt (e : EM) : IM := fun ρ S => (e ρ S).bind itF
theorem pmi_seq (he : PE X e (tE X.K W me)) : PMi X W tg e (mIt me) := ⟨_, pi_seq he, fun σ H R h => by
  obtain ⟨ρ, S, ι, h1, h2, h⟩ := tGen.bind (R := Den X.K) (k := fun _ d S1 => itF d S1) h
  refine ⟨ρ, S, ι, h1, h2, h.mono fun v H1 ⟨ρ1, ι1, d, S1, e1, s1, d1, f⟩ => ?_⟩
  unfold itF at f
  split at f
  · rename_i xs z
    by_cases ht : ∃ ys, d = .tup ys
    · obtain ⟨ys, rfl⟩ := ht
      cases z
      have d1' := d1
      cases d1 with
      | @tup a vs _ q1 q2 => exact ⟨a, rfl, .inr ⟨⟨vs, q1.sq⟩, f.here s1 (walk_tup d1')⟩⟩
    · have z' : lstOf S1 d = some xs := by
        cases d with
        | tup ys => exact absurd ⟨ys, rfl⟩ ht
        | _ => exact z
      obtain ⟨a, vs, rfl, q1, q2, _⟩ := lst_den s1 d1 z'
      exact ⟨a, rfl, .inl ⟨⟨vs, .inl q1⟩, f.here s1 (walk_lst d1 z')⟩⟩
  · exact f.elim⟩
/-- range(n), range(i, j) -/
def rngD (i : Int) (n : Nat) : List D := (List.range n).map fun k => .int (i + (k : Nat))
def rng1F : List D → Store → Res ItD := fun ds S => match ds with
  | [.int j] => if -(2 ^ 62) ≤ j ∧ j < 2 ^ 62 then .ok ⟨rngD 0 j.toNat, fun _ => true⟩ S else .bad
  | _ => .bad
def rng2F : List D → Store → Res ItD := fun ds S => match ds with
  | [.int i, .int j] => if -(2 ^ 62) ≤ i ∧ i < 2 ^ 62 ∧ -(2 ^ 62) ≤ j ∧ j < 2 ^ 62 then .ok ⟨rngD i (j - i).toNat, fun _ => true⟩ S else .bad
  | _ => .bad
@[simp] def mItA (f : List D → Store → Res ItD) (t : AM) : IM := fun ρ S => (t ρ S).bind f
theorem walk_rng {H : Hp} {ι : Ix} {i : Int} {n : Nat} {ck : Store → Bool} : Walk K (Itr i n) ⟨rngD i n, ck⟩ H ι where
  go := fun k y H1 ι1 S1 x s1 c hi => by
    unfold rngD at hi
    rw [List.getElem?_map] at hi
    by_cases hk : k < n
    · rw [List.getElem?_range hk] at hi
      cases hi
      refine ⟨hk, fun w H' hy => ?_⟩
      obtain ⟨rfl, rfl⟩ := hy
      exact ⟨Ext.refl _ _, s1, .int _⟩
    · rw [List.getElem?_eq_none (by simpa using hk)] at hi; cases hi
  stop := fun k H1 ι1 S1 x s1 c hi => by
    have : n ≤ k := by simpa [rngD] using hi
    exact this
theorem pmi_rng1 {a : Expr} (hm : X.mg "range" = none) (ha : PA X [a] (tA X.K W t)) (hg : Gl X "range" := by rfl) (hs : starEach [a] X.env = [(false, eval a X.env)] := by rfl) : PMi X W tg (.Call (.Name "range" p) [a] [] pos) (mItA rng1F t) := ⟨_, pi_range1 hg hm ha hs, fun σ H R h => by
  obtain ⟨ρ, S, ι, h1, h2, h⟩ := tGen.bind (R := DenL X.K) (k := fun _ d S1 => rng1F d S1) h
  refine ⟨ρ, S, ι, h1, h2, h.mono fun vs H1 ⟨ρ1, ι1, ds, S1, e1, s1, d1, f⟩ => ?_⟩
  unfold rng1F at f
  split at f
  · rename_i j
    obtain ⟨v, rfl, q⟩ := d1.one
    cases q
    split at f
    · rename_i hj
      exact ⟨j, rfl, hj.1, hj.2, f.here s1 walk_rng⟩
    · exact f.elim
  · exact f.elim⟩
theorem pmi_rng2 {a b : Expr} (hm : X.mg "range" = none) (ha : PA X [a, b] (tA X.K W t)) (hg : Gl X "range" := by rfl) (hs : starEach [a, b] X.env = [(false, eval a X.env), (false, eval b X.env)] := by rfl) (hs2 : starEach [b] X.env = [(false, eval b X.env)] := by rfl) :
    PMi X W tg (.Call (.Name "range" p) [a, b] [] pos) (mItA rng2F t) := ⟨_, pi_range2 hg hm ha hs hs2, fun σ H R h => by
  obtain ⟨ρ, S, ι, h1, h2, h⟩ := tGen.bind (R := DenL X.K) (k := fun _ d S1 => rng2F d S1) h
  refine ⟨ρ, S, ι, h1, h2, h.mono fun vs H1 ⟨ρ1, ι1, ds, S1, e1, s1, d1, f⟩ => ?_⟩
  unfold rng2F at f
  split at f
  · rename_i i j
    obtain ⟨v, w, rfl, q, q'⟩ := d1.two
    cases q
    cases q'
    split at f
    · rename_i hj
      exact ⟨i, j, rfl, hj, f.here s1 walk_rng⟩
    · exact f.elim
  · exact f.elim⟩
/-- the letters of a text -/
def sgnF : D → Store → Res ItD := fun d S => match d with
  | .str z => .ok ⟨z.cps.toList.map fun c => .str ⟨#[c]⟩, fun _ => true⟩ S
  | _ => .bad
def mItS (e : EM) : IM := fun ρ S => (e ρ S).bind sgnF
theorem walk_sgn {H : Hp} {ι : Ix} {z : Str} {ck : Store → Bool} : Walk K (Its z) ⟨z.cps.toList.map fun c => .str ⟨#[c]⟩, ck⟩ H ι where
  go := fun k y H1 ι1 S1 x s1 c hi => by
    rw [List.getElem?_map] at hi
    cases q : z.cps.toList[k]? with
    | none => rw [q] at hi; cases hi
    | some cc =>
      rw [q] at hi
      cases hi
      have hk : k < z.cps.size := by
        have := (List.getElem?_eq_some_iff.mp q).1
        simpa using this
      refine ⟨hk, fun w H' hy => ?_⟩
      obtain ⟨rfl, c2, hc, rfl⟩ := hy
      rw [Array.getElem?_toList] at q
      rw [q] at hc
      cases hc
      exact ⟨Ext.refl _ _, s1, .str _⟩
  stop := fun k H1 ι1 S1 x s1 c hi => by
    have : z.cps.size ≤ k := by simpa using hi
    exact this
theorem pmi_sgn (he : PE X e (tE X.K W me)) : PMi X W tg e (mItS me) := ⟨_, pi_str he, fun σ H R h => by
  obtain ⟨ρ, S, ι, h1, h2, h⟩ := tGen.bind (R := Den X.K) (k := fun _ d S1 => sgnF d S1) h
  refine ⟨ρ, S, ι, h1, h2, h.mono fun v H1 ⟨ρ1, ι1, d, S1, e1, s1, d1, f⟩ => ?_⟩
  unfold sgnF at f
  split at f
  · cases d1
    exact ⟨_, rfl, f.here s1 walk_sgn⟩
  · exact f.elim⟩
/-- enumerate(xs) of a list -/
def enumL : Nat → List D → List D
  | _, [] => []
  | i, x :: r => .tup [.int (i : Nat), x] :: enumL (i + 1) r
theorem enumL_get : ∀ {xs : List D} {j i : Nat} {d : D}, (enumL j xs)[i]? = some d → ∃ x, xs[i]? = some x ∧ d = .tup [.int ((j + i : Nat) : Int), x]
  | [], j, i, d, h => by simp [enumL] at h
  | x :: r, j, 0, d, h => by
    simp [enumL] at h
    exact ⟨x, rfl, h.symm⟩
  | x :: r, j, i + 1, d, h => by
    have h : (enumL (j + 1) r)[i]? = some d := by simpa [enumL] using h
    obtain ⟨y, h1, h2⟩ := enumL_get h
    exact ⟨y, by simpa using h1, by rw [h2, show j + 1 + i = j + (i + 1) by omega]⟩
theorem enumL_length : ∀ (xs : List D) (j : Nat), (enumL j xs).length = xs.length
  | [], _ => rfl
  | _ :: r, j => by simp [enumL, enumL_length r (j + 1)]
def enumF : List D → Store → Res ItD := fun ds S => match ds with
  | [d] => match lstOf S d with
    | some xs => .ok ⟨enumL 0 xs, ckOf d xs⟩ S
    | none => .bad
  | _ => .bad
theorem pmi_enum {elts : List Expr} {kk : Nat} {tpos : Pos} (hm : X.mg "enumerate" = none) (ha : PA X [e] (tA X.K W t)) (hg : Gl X "enumerate" := by rfl) (hs : starEach [e] X.env = [(false, eval e X.env)] := by rfl) :
    PMi X W (.Tuple elts kk tpos) (.Call (.Name "enumerate" p) [e] [] pos) (mItA enumF t) := ⟨_, pi_enum hg hm ha hs, fun σ H R h => by
  obtain ⟨ρ, S, ι, h1, h2, h⟩ := tGen.bind (R := DenL X.K) (k := fun _ d S1 => enumF d S1) h
  refine ⟨ρ, S, ι, h1, h2, h.mono fun vs H1 ⟨ρ1, ι1, ds, S1, e1, s1, d1, f⟩ => ?_⟩
  unfold enumF at f
  split at f
  · rename_i d _
    obtain ⟨v, rfl, q⟩ := d1.one
    split at f
    · rename_i xs z
      obtain ⟨a, vs, rfl, q1, q2, _⟩ := lst_den s1 q z
      refine ⟨a, vs, rfl, .inl q1, f.here s1 ⟨fun i y H2 ι2 S2 x s2 c hi => ?_, fun i H2 ι2 S2 x s2 c hi => ?_⟩⟩
      · obtain ⟨ws, r1, r2⟩ := ck_lst q z x s2 c
        obtain ⟨y', hy', rfl⟩ := enumL_get hi
        obtain ⟨v, hv, hd⟩ := r2.get hy'
        refine ⟨⟨ws, v, r1, hv⟩, fun w H' hy => ?_⟩
        obtain ⟨T, u, rfl, hT, rfl, hy⟩ := hy
        have := hy ws r1
        rw [hv] at this
        cases this
        refine ⟨Ext.laid hT, s2.laid hT, ?_⟩
        have := den_new_tup s2 hT (DenL.cons (.int (i : Nat)) (.cons hd .nil))
        rw [Nat.zero_add]
        exact this
      · obtain ⟨ws, r1, r2⟩ := ck_lst q z x s2 c
        exact ⟨ws, r1, by rw [r2.length]; simpa [enumL_length] using hi⟩
    · exact f.elim
  · exact f.elim⟩
/-- zip of two lists, of two tuples -/
def zipL : List D → List D → List D
  | x :: r, y :: q => .tup [x, y] :: zipL r q
  | _, _ => []
theorem zipL_get : ∀ {xs ys : List D} {i : Nat} {d : D}, (zipL xs ys)[i]? = some d → ∃ x y, xs[i]? = some x ∧ ys[i]? = some y ∧ d = .tup [x, y]
  | [], _, i, d, h => by simp [zipL] at h
  | _ :: _, [], i, d, h => by simp [zipL] at h
  | x :: r, y :: q, 0, d, h => by
    simp [zipL] at h
    exact ⟨x, y, rfl, rfl, h.symm⟩
  | x :: r, y :: q, i + 1, d, h => by
    have h : (zipL r q)[i]? = some d := by simpa [zipL] using h
    obtain ⟨u, v, h1, h2, h3⟩ := zipL_get h
    exact ⟨u, v, by simpa using h1, by simpa using h2, h3⟩
theorem zipL_length : ∀ (xs ys : List D), (zipL xs ys).length = min xs.length ys.length
  | [], _ => by simp [zipL]
  | _ :: _, [] => by simp [zipL]
  | _ :: r, _ :: q => by simp [zipL, zipL_length r q]
def zipF : List D → Store → Res ItD := fun ds S => match ds with
  | [.tup xs, .tup ys] => .ok ⟨zipL xs ys, fun _ => true⟩ S
  | [d, e] => match lstOf S d, lstOf S e with
    | some xs, some ys => .ok ⟨zipL xs ys, fun S' => ckOf d xs S' && ckOf e ys S'⟩ S
    | _, _ => .bad
  | _ => .bad
theorem pmi_zip {e2 : Expr} {elts : List Expr} {kk : Nat} {tpos : Pos} (hm : X.mg "zip" = none) (ha : PA X [e, e2] (tA X.K W t)) (hg : Gl X "zip" := by rfl) (hs : starEach [e, e2] X.env = (false, eval e X.env) :: starEach [e2] X.env := by rfl) (hpl : (backTo pos (starEach [e2] X.env)).any (·.1) = false := by rfl) :
    PMi X W (.Tuple elts kk tpos) (.Call (.Name "zip" p) [e, e2] [] pos) (mItA zipF t) := ⟨_, RZ.pi_zipA hg hm ha hs hpl, fun σ H R h => by
  obtain ⟨ρ, S, ι, h1, h2, h⟩ := tGen.bind (R := DenL X.K) (k := fun _ d S1 => zipF d S1) h
  refine ⟨ρ, S, ι, h1, h2, h.mono fun vs H1 ⟨ρ1, ι1, ds, S1, e1, s1, d1, f⟩ => ?_⟩
  unfold zipF at f
  split at f
  · rename_i xs ys
    obtain ⟨v, w, rfl, q, q'⟩ := d1.two
    have q0 := q
    have q0' := q'
    cases q with
    | @tup a vs _ r1 r2 =>
      cases q' with
      | @tup b ws _ r1' r2' =>
        refine ⟨a, b, vs, ws, rfl, .inr ⟨r1.sq, r1'.sq, f.here s1 ⟨fun i y H2 ι2 S2 x s2 c hi => ?_, fun i H2 ι2 S2 x s2 c hi => ?_⟩⟩⟩
        · have p1 := Den.ext0 x _ q0
          have p2 := Den.ext0 x _ q0'
          cases p1 with
          | @tup _ vs1 _ r3 r4 =>
            cases p2 with
            | @tup _ ws1 _ r5 r6 =>
              obtain ⟨u, v, hu, hv, rfl⟩ := zipL_get hi
              obtain ⟨u', hu', du⟩ := r4.get hu
              obtain ⟨v', hv', dv⟩ := r6.get hv
              refine ⟨⟨vs1, ws1, u', v', r3.sq, r5.sq, hu', hv'⟩, fun w H' hy => ?_⟩
              obtain ⟨T, u2, v2, rfl, hT, rfl, hy1, hy2⟩ := hy
              have z1 := hy1 vs1 r3.sq
              have z2 := hy2 ws1 r5.sq
              rw [hu'] at z1
              rw [hv'] at z2
              cases z1
              cases z2
              exact ⟨Ext.laid hT, s2.laid hT, den_new_tup s2 hT (.cons du (.cons dv .nil))⟩
        · have p1 := Den.ext0 x _ q0
          have p2 := Den.ext0 x _ q0'
          cases p1 with
          | @tup _ vs1 _ r3 r4 =>
            cases p2 with
            | @tup _ ws1 _ r5 r6 =>
              refine ⟨vs1, ws1, r3.sq, r5.sq, ?_⟩
              rw [r4.length, r6.length]
              have hi : (zipL xs ys).length ≤ i := hi
              rw [zipL_length] at hi
              omega
  · rename_i d d' _
    obtain ⟨v, w, rfl, q, q'⟩ := d1.two
    split at f
    · rename_i xs ys z z'
      obtain ⟨a, vs, rfl, q1, q2, _⟩ := lst_den s1 q z
      obtain ⟨b, ws, rfl, q1', q2', _⟩ := lst_den s1 q' z'
      refine ⟨a, b, vs, ws, rfl, .inl ⟨.inl q1, .inl q1', f.here s1 ⟨fun i y H2 ι2 S2 x s2 c hi => ?_, fun i H2 ι2 S2 x s2 c hi => ?_⟩⟩⟩
      · have c' : (ckOf d xs S2 && ckOf d' ys S2) = true := c
        rw [Bool.and_eq_true] at c'
        obtain ⟨vs1, r1, r2⟩ := ck_lst q z x s2 c'.1
        obtain ⟨ws1, r3, r4⟩ := ck_lst q' z' x s2 c'.2
        obtain ⟨u, v, hu, hv, rfl⟩ := zipL_get hi
        obtain ⟨u', hu', du⟩ := r2.get hu
        obtain ⟨v', hv', dv⟩ := r4.get hv
        refine ⟨⟨vs1, ws1, u', v', r1, r3, hu', hv'⟩, fun w H' hy => ?_⟩
        obtain ⟨T, u2, v2, rfl, hT, rfl, hy1, hy2⟩ := hy
        have z1 := hy1 vs1 r1
        have z2 := hy2 ws1 r3
        rw [hu'] at z1
        rw [hv'] at z2
        cases z1
        cases z2
        exact ⟨Ext.laid hT, s2.laid hT, den_new_tup s2 hT (.cons du (.cons dv .nil))⟩
      · have c' : (ckOf d xs S2 && ckOf d' ys S2) = true := c
        rw [Bool.and_eq_true] at c'
        obtain ⟨vs1, r1, r2⟩ := ck_lst q z x s2 c'.1
        obtain ⟨ws1, r3, r4⟩ := ck_lst q' z' x s2 c'.2
        refine ⟨vs1, ws1, r1, r3, ?_⟩
        rw [r2.length, r4.length]
        have hi : (zipL xs ys).length ≤ i := hi
        rw [zipL_length] at hi
        omega
    · exact f.elim
  · exact f.elim⟩
end
end MD

set_option maxHeartbeats 4000000
namespace MD
open PySem PySem.Spec PyProof.Rows L2

/-! ### loops -/
def forL (ck : Store → Bool) (g : GM) (body : SM) : List D → SM
  | [], ρ, S => if ck S = true then .nx ρ S else .bad
  | x :: r, ρ, S => if ck S = true then match g x ρ S with
      | some ρ1 => match body ρ1 S with
        | .nx ρ2 S2 => forL ck g body r ρ2 S2
        | .ct ρ2 S2 => forL ck g body r ρ2 S2
        | .bk ρ2 S2 => .nx ρ2 S2
        | q => q
      | none => .bad
    else .bad
@[simp] def sFor (it : IM) (g : GM) (body : SM) : SM := fun ρ S => sDo (it ρ S) ρ fun p S1 => forL p.ck g body p.xs ρ S1
section
variable {X : Cx} {W : WX} {K : PySem.W.Frag} {B : Base} {tg e : Expr} {it : IM} {g : GM} {sl : List Nat} {body : List Stmt} {m : SM} {pos : Pos}
theorem pms_any (hb : ∀ B, PSs X body (tS X.K W B m)) : PSs X body (fun D σ H => ∃ B, tS X.K W B m D σ H) := ⟨fun pins s σ H D I ⟨B, h⟩ => (hb B).run pins s σ H D I h⟩
theorem pm_for (hp : PassesOwn (model X.prog X.w) X.A X.env X.xe) (hc : X.calm = true) (hi : PMi X W tg e it) (hg : PMg X tg g sl) (hb : ∀ B, PSs X body (tS X.K W B m)) (hs : ∀ x, foldedSetIterable e X.env x = pure x := by intro _; rfl) :
    PS X (.For tg e body [] pos) (tS X.K W B (sFor it g m)) := by
  obtain ⟨wi, pi, qi⟩ := hi.ex
  obtain ⟨tgt, pg, qg⟩ := hg.ex
  refine ps_weak (ps_for hp hc pi pg (pms_any hb) hs) fun D σ H h => qi _ _ _ ?_
  refine tGen_mono (tS_do (R := fun H ι J a => Walk X.K J a H ι) (k := fun ρ p S1 => forL p.ck g m p.xs ρ S1) h) fun J H1 ⟨ρ1, ι1, p, S1, s1, w, f⟩ => ?_
  refine ⟨fun i k σ' H' => k = p.xs.length - i ∧ i ≤ p.xs.length ∧ ∃ ρ S ι, Sta X.K B σ' ρ H' ι S ∧ Ext H1 ι1 H' ι ∧ Fs X.K W B (forL p.ck g m (p.xs.drop i) ρ S) D, ⟨p.xs.length, by simp, Nat.zero_le _, ρ1, S1, ι1, s1, Ext.refl _ _, by simpa using f⟩, fun i k σ' H' ⟨hk, hi, ρ, S, ι, s, x, f⟩ => ?_⟩
  by_cases hlt : i < p.xs.length
  · obtain ⟨d, hd⟩ : ∃ d, p.xs[i]? = some d := ⟨p.xs[i], List.getElem?_eq_getElem hlt⟩
    have hdrop : p.xs.drop i = d :: p.xs.drop (i + 1) := by
      rw [List.drop_eq_getElem_cons hlt]
      rw [List.getElem?_eq_getElem hlt] at hd
      cases hd
      rfl
    rw [hdrop] at f
    unfold forL at f
    split at f
    · rename_i hck
      obtain ⟨hgo, hy⟩ := w.go i d H' ι S x.toExt0 s.s hck hd
      refine .inr ⟨hgo, fun σ2 H2 => ∃ ρ S ι, Sta X.K B σ2 ρ H2 ι S ∧ Ext H1 ι1 H2 ι ∧ Fs X.K W B (forL p.ck g m (p.xs.drop (i + 1)) ρ S) D, fun σ2 H2 h2 => ⟨p.xs.length - (i + 1), by omega, rfl, hlt, h2⟩, fun v H2 hv => ?_⟩
      obtain ⟨x2, r2, dv⟩ := hy v H2 hv
      have s2 := s.next x2 r2
      have x12 := x.trans x2
      cases hgm : g d ρ S with
      | none => simp only [hgm] at f; exact f.elim
      | some ρ2 =>
        simp only [hgm] at f
        refine qg v d σ' ρ ρ2 H2 ι S _ dv s2.e s2.s hgm fun σ3 he3 _ _ => ?_
        have s3 : Sta X.K ⟨H2, ι⟩ σ3 ρ2 H2 ι S := ⟨he3, s2.s, Ext.refl _ _⟩
        refine ⟨⟨H2, ι⟩, ρ2, S, ι, s3, ?_⟩
        cases hm : m ρ2 S with
        | nx ρ4 S4 =>
          simp only [hm] at f
          exact fun σ4 H4 ι4 s4 => ⟨ρ4, S4, ι4, ⟨s4.e, s4.s, s2.b.trans s4.b⟩, x12.trans s4.b, f⟩
        | ct ρ4 S4 =>
          simp only [hm] at f
          exact fun σ4 H4 ι4 s4 => ⟨ρ4, S4, ι4, ⟨s4.e, s4.s, s2.b.trans s4.b⟩, x12.trans s4.b, f⟩
        | bk ρ4 S4 =>
          simp only [hm] at f
          exact fun σ4 H4 ι4 s4 => f σ4 H4 ι4 ⟨s4.e, s4.s, s2.b.trans s4.b⟩
        | rt d4 S4 =>
          simp only [hm] at f
          exact fun v4 H4 ι4 r4 x4 dd4 => f v4 H4 ι4 r4 (s2.b.trans x4) dd4
        | exc y ρ4 S4 =>
          simp only [hm] at f
          exact fun σ4 H4 ι4 cls dd s4 e4 => f σ4 H4 ι4 cls dd ⟨s4.e, s4.s, s2.b.trans s4.b⟩ e4
        | bad => simp only [hm] at f; exact f.elim
    · exact f.elim
  · have hil : i = p.xs.length := Nat.le_antisymm hi (Nat.not_lt.mp hlt)
    have hdrop : p.xs.drop i = [] := List.drop_eq_nil_of_le (by omega)
    rw [hdrop] at f
    unfold forL at f
    split at f
    · rename_i hck
      exact .inl ⟨w.stop i H' ι S x.toExt0 s.s hck (by omega), f _ _ _ s⟩
    · exact f.elim
/-! while: by turns; as many as it takes -/
def whL (c : BM) (body : SM) : Nat → SM
  | 0, _, _ => .bad
  | k + 1, ρ, S => sDo (c ρ S) ρ fun b S1 => if b = true then match body ρ S1 with
      | .nx ρ2 S2 => whL c body k ρ2 S2
      | .ct ρ2 S2 => whL c body k ρ2 S2
      | .bk ρ2 S2 => .nx ρ2 S2
      | q => q
    else .nx ρ S1
open Classical in
noncomputable def sWhile (c : BM) (body : SM) : SM := fun ρ S => if h : ∃ k, whL c body k ρ S ≠ .bad then whL c body h.choose ρ S else .bad
theorem whL_mono (c : BM) (body : SM) : ∀ (k : Nat) (ρ : MD.Env) (S : Store), whL c body k ρ S ≠ .bad → whL c body (k + 1) ρ S = whL c body k ρ S
  | 0, _, _, h => absurd rfl h
  | k + 1, ρ, S, h => by
    rw [whL] at h
    rw [whL, whL]
    cases q : c ρ S with
    | bad => rfl
    | exc x S1 => rfl
    | ok b S1 =>
      simp only [q, sDo] at h ⊢
      cases b with
      | false => rfl
      | true =>
        simp only [if_true] at h ⊢
        cases z : body ρ S1 with
        | nx ρ2 S2 => simp only [z] at h ⊢; exact whL_mono c body k ρ2 S2 h
        | ct ρ2 S2 => simp only [z] at h ⊢; exact whL_mono c body k ρ2 S2 h
        | _ => rfl
theorem whL_more (c : BM) (body : SM) {k : Nat} {ρ : MD.Env} {S : Store} (h : whL c body k ρ S ≠ .bad) : ∀ j, whL c body (k + j) ρ S = whL c body k ρ S
  | 0 => rfl
  | j + 1 => by
    have ih := whL_more c body h j
    rw [← ih] at h
    rw [← ih]
    exact whL_mono c body (k + j) ρ S h
theorem sWhile_eq {c : BM} {body : SM} {k : Nat} {ρ : MD.Env} {S : Store} (h : whL c body k ρ S ≠ .bad) : sWhile c body ρ S = whL c body k ρ S := by
  have hx : ∃ k, whL c body k ρ S ≠ .bad := ⟨k, h⟩
  unfold sWhile
  rw [dif_pos hx]
  rcases Nat.le_total k hx.choose with z | z
  · obtain ⟨j, hj⟩ := Nat.exists_eq_add_of_le z
    rw [hj]
    exact whL_more c body h j
  · obtain ⟨j, hj⟩ := Nat.exists_eq_add_of_le z
    have := whL_more c body hx.choose_spec j
    rw [← hj] at this
    exact this.symm
theorem pm_while {c : Expr} {mc : BM} (hp : PassesOwn (model X.prog X.w) X.A X.env X.xe) (hc : PT X c (tT X.K W mc)) (hb : ∀ B, PSs X body (tS X.K W B m)) : PS X (.While c body [] pos) (tS X.K W B (sWhile mc m)) := by
  refine ps_weak (ps_while hp hc (pms_any hb)) fun D σ H ⟨ρ0, S0, ι0, s0, f0⟩ => ?_
  unfold sWhile at f0
  split at f0
  · rename_i hx
    refine ⟨fun k σ' H' => ∃ ρ S ι, Sta X.K B σ' ρ H' ι S ∧ Fs X.K W B (whL mc m k ρ S) D, ⟨_, ρ0, S0, ι0, s0, f0⟩, fun k σ' H' ⟨ρ, S, ι, s, f⟩ => ?_⟩
    cases k with
    | zero => exact f.elim
    | succ k =>
      unfold whL at f
      refine tGen_mono (s.do (R := fun _ _ (v : Bool) a => v = a) (k := fun ρ b S1 => if b = true then match m ρ S1 with
        | .nx ρ2 S2 => whL mc m k ρ2 S2
        | .ct ρ2 S2 => whL mc m k ρ2 S2
        | .bk ρ2 S2 => .nx ρ2 S2
        | q => q
      else .nx ρ S1) f) fun b H1 ⟨ι1, b', S1, s1, x1, hb', f1⟩ => ?_
      subst hb'
      cases b with
      | false => exact f1 _ _ _ s1
      | true =>
        simp only [if_true] at f1 ⊢
        refine ⟨fun σ2 H2 => ∃ ρ S ι, Sta X.K B σ2 ρ H2 ι S ∧ Fs X.K W B (whL mc m k ρ S) D, fun σ2 H2 h2 => ⟨k, Nat.lt_succ_self k, h2⟩, B, ρ, S1, ι1, s1, ?_⟩
        cases hm : m ρ S1 with
        | nx ρ4 S4 =>
          simp only [hm] at f1
          exact fun σ4 H4 ι4 s4 => ⟨ρ4, S4, ι4, s4, f1⟩
        | ct ρ4 S4 =>
          simp only [hm] at f1
          exact fun σ4 H4 ι4 s4 => ⟨ρ4, S4, ι4, s4, f1⟩
        | bk ρ4 S4 => simp only [hm] at f1; exact f1
        | rt d4 S4 => simp only [hm] at f1; exact f1
        | exc y ρ4 S4 => simp only [hm] at f1; exact f1
        | bad => simp only [hm] at f1; exact f1.elim
  · exact f0.elim
end

/-! ### the body of a def -/
def endB : SR → Res D
  | .nx _ S => .ok .non S
  | .rt d S => .ok d S
  | .exc x _ S => .exc x S
  | _ => .bad
/-- N slots; the arguments come first -/
@[simp] def runB (n : Nat) (m : SM) : FM := fun ds S => endB (m (ds.map some ++ List.replicate (n - ds.length) none) S)
section
variable {P : Program} {w : World} {K : PySem.W.Frag} {mg : Str → Option Value} {base : Heap}
theorem start_e {H : Hp} {ι : Ix} {N : List Str} {vs : List V} {ds : List D} (h : DenL K H ι vs ds) : RepE K H ι (L2.start N vs) (ds.map some ++ List.replicate (N.length - ds.length) none) := by
  refine ⟨by unfold L2.start; simp [h.length], fun i d e => ?_⟩
  by_cases hi : i < ds.length
  · rw [List.getElem?_append_left (by simpa using hi), List.getElem?_map] at e
    cases q : ds[i]? with
    | none => rw [q] at e; cases e
    | some d' =>
      rw [q] at e
      cases e
      obtain ⟨v, hv, hd⟩ := h.get q
      refine ⟨v, ?_, hd⟩
      unfold L2.start
      rw [List.getElem?_append_left (by simpa [h.length] using hi), List.getElem?_map, hv]
      rfl
  · rw [List.getElem?_append_right (by simpa using hi)] at e
    rw [List.getElem?_replicate] at e
    split at e <;> cases e
theorem fi_run {m : SM} {N : List Str} {vs : List V} {ds : List D} {H : Hp} {ι : Ix} {S : Store} {Q : VK} {E : XK} (hs : RepS K H ι S) (hd : DenL K H ι vs ds) (hf : Fi K (Den K) E H ι (runB N.length m ds S) Q) :
    tS K (fun cls dd _ H => E cls dd H) ⟨H, ι⟩ m { nx := fun _ H' => Q .non H', rt := Q } (L2.start N vs) H := by
  refine ⟨_, S, ι, ⟨start_e hd, hs, Ext.refl _ _⟩, ?_⟩
  unfold runB at hf
  cases q : m (ds.map some ++ List.replicate (N.length - ds.length) none) S with
  | nx ρ S' => rw [q] at hf; exact fun σ H' ι' s => hf .non H' ι' s.b s.s .non
  | rt d S' => rw [q] at hf; exact fun v H' ι' r x dd => hf v H' ι' x r dd
  | exc x ρ S' => rw [q] at hf; exact fun σ H' ι' cls dd s e => hf cls dd H' ι' s.b s.s e
  | bk ρ S' => rw [q] at hf; exact hf.elim
  | ct ρ S' => rw [q] at hf; exact hf.elim
  | bad => rw [q] at hf; exact hf.elim
/-- a def, from its body's reading -/
theorem fnG_body {k : Nat} {f : Addr} {x qual : Str} {params : Arguments} {body : List Stmt} {scope : Scope} {dvs : List V} {kws : List (Str × V)} {fd : FuncData} {N ps : List Str} {m : SM}
    (F : FunD K x qual params body scope dvs kws f fd) (Sc : FnScope N ps scope)
    (hbody : ∀ (cdv : Value) (A : Around) (outer : List PySem.Env) (s : Shared) (H : Hp) (E : XK) (B : Base), Rm k (cxB P w K mg base N qual scope f cdv A outer s H E).A →
      PSs (cxB P w K mg base N qual scope f cdv A outer s H E) body (tS K (fun cls dd _ H => E cls dd H) B m)) :
    FnG P w K mg base (k + 1) f fd ps (spM K ps.length (runB N.length m)) :=
  fnG_of F Sc (fun _ _ _ _ h => h.len) fun cdv A outer s H vs Q E hr h => by
    obtain ⟨ds, S, ι, hl, hs, hd, hf⟩ := h
    exact ⟨_, hbody cdv A outer s H E ⟨H, ι⟩ hr, fi_run hs hd hf⟩
theorem cal_body {k : Nat} {f : Addr} {x qual : Str} {params : Arguments} {body : List Stmt} {scope : Scope} {fd : FuncData} {N ps : List Str} {m : SM}
    (F : FunD K x qual params body scope [] [] f fd) (Sc : FnScope N ps scope) (hm : mg x = some (.ref f)) (hb : Binds K fd ps [])
    (hbody : ∀ (cdv : Value) (A : Around) (outer : List PySem.Env) (s : Shared) (H : Hp) (E : XK) (B : Base), Rm k (cxB P w K mg base N qual scope f cdv A outer s H E).A →
      PSs (cxB P w K mg base N qual scope f cdv A outer s H E) body (tS K (fun cls dd _ H => E cls dd H) B m)) :
    Cal P w K mg base (k + 1) x ps.length (runB N.length m) :=
  ⟨f, fd, ps, rfl, fnG_body F Sc hbody, hm, F.kp, hb⟩
/-- what such a body's context takes -/
theorem takesB {N : List Str} {qual : Str} {scope : Scope} {f : Addr} {cdv : Value} {A : Around} {outer : List PySem.Env} {s : Shared} {H : Hp} {E : XK} : Takes (cxB P w K mg base N qual scope f cdv A outer s H E) (fun cls dd _ H => E cls dd H) :=
  takes_of rfl rfl rfl rfl
theorem passB {N : List Str} {qual : Str} {scope : Scope} {f : Addr} {cdv : Value} {A : Around} {outer : List PySem.Env} {s : Shared} {H : Hp} {E : XK} : PassesOwn (model (cxB P w K mg base N qual scope f cdv A outer s H E).prog (cxB P w K mg base N qual scope f cdv A outer s H E).w) (cxB P w K mg base N qual scope f cdv A outer s H E).A (cxB P w K mg base N qual scope f cdv A outer s H E).env (cxB P w K mg base N qual scope f cdv A outer s H E).xe :=
  passes_of rfl
end
end MD

set_option maxHeartbeats 4000000
namespace MD
open PySem PySem.Spec PyProof.Rows L2

/-! ### comprehensions -/
def wipeE (ρ : MD.Env) : List Nat → MD.Env
  | [] => ρ
  | v :: vs => (wipeE ρ vs).set v none
theorem RepE.wipe {K : PySem.W.Frag} {H : Hp} {ι : Ix} {σ : L2.St} {ρ : MD.Env} (r : RepE K H ι σ ρ) : ∀ vs : List Nat, RepE K H ι (L2.wipe σ vs) (wipeE ρ vs)
  | [] => r
  | v :: vs => (r.wipe vs).forget v none
theorem wipe_in {σ : L2.St} {i : Nat} : ∀ {vs : List Nat}, i ∈ vs → (L2.wipe σ vs)[i]? = if i < σ.length then some none else none
  | v :: vs, h => by
    unfold L2.wipe
    by_cases hi : v = i
    · subst hi
      by_cases hl : v < σ.length
      · rw [List.getElem?_set_self (by rw [wipe_length]; exact hl), if_pos hl]
      · rw [List.getElem?_eq_none (by rw [List.length_set, wipe_length]; omega), if_neg hl]
    · rw [List.getElem?_set_ne hi]
      exact wipe_in ((List.mem_cons.mp h).resolve_left fun z => hi z.symm)
theorem wipe_same {σ σ' : L2.St} {vs sl : List Nat} (hs : ∀ i ∈ sl, i ∈ vs) (hl : σ'.length = (L2.wipe σ vs).length) (h : ∀ i, i ∉ sl → σ'[i]? = (L2.wipe σ vs)[i]?) : L2.wipe σ' vs = L2.wipe σ vs := by
  refine List.ext_getElem? fun i => ?_
  by_cases hi : i ∈ vs
  · rw [wipe_in hi, wipe_in hi, hl, wipe_length]
  · rw [wipe_out hi, h i fun z => hi (hs i z)]
/-- no exception comes of it -/
@[simp] def noX {α β : Type} (r : Res α) (k : α → Store → Res β) : Res β := match r with
  | .ok a S => k a S
  | _ => .bad
def lcL (ck : Store → Bool) (g : GM) (tt : BM) (te : EM) (vs : List Nat) (ρ : MD.Env) : List D → List D → Store → Res (List D)
  | [], acc, S => if ck S = true then .ok acc S else .bad
  | x :: r, acc, S => if ck S = true then match g x (wipeE ρ vs) S with
      | some ρ2 => noX (tt ρ2 S) fun b S1 => if b = true then noX (te ρ2 S1) fun y S2 => if acc.length < sizeLine then lcL ck g tt te vs ρ r (acc ++ [y]) S2 else .bad
        else lcL ck g tt te vs ρ r acc S1
      | none => .bad
    else .bad
/-- the new list is ready -/
@[simp] def finL (c : Bool) (xs : List D) (S : Store) : Res D := if c = true then .ok (.loc S.length) (S ++ [.lst xs]) else .ok (.lst xs) S
def mLc (c : Bool) (it : IM) (g : GM) (tt : BM) (te : EM) (vs : List Nat) : EM := fun ρ S => (it ρ S).bind fun p S1 => (lcL p.ck g tt te vs ρ p.xs [] S1).bind (finL c)
@[simp] def bYes : BM := fun _ S => .ok true S
/-- from (H1, ι1) on, with the new list D hidden -/
structure XH (H1 : Hp) (ι1 : Ix) (D : Addr) (H : Hp) (ι : Ix) : Prop where
  keep : ∀ a o, H1 a = some o → some a ∉ ι1.num → H a = some o
  pre : ∀ (n : Nat) (x : Option Addr), ι1.num[n]? = some x → ι.num[n]? = some x
  new : ∀ a, some a ∈ ι.num → some a ∈ ι1.num ∨ H1 a = none
  hid : ι.hid = D :: ι1.hid
  fresh : H1 D = none
section
variable {K : PySem.W.Frag} {H1 H H' : Hp} {ι1 ι ι' : Ix} {D : Addr}
theorem XH.ext0 (x : XH H1 ι1 D H ι) : Ext0 H1 ι1 H ι :=
  ⟨fun a o h n => x.keep a o h fun z => n (.inl z), x.pre, fun a m => by
    rcases m with m | m
    · rcases x.new a m with z | z
      · exact .inl (.inl z)
      · exact .inr z
    · rw [x.hid] at m
      rcases List.mem_cons.mp m with z | z
      · exact .inr (by rw [z]; exact x.fresh)
      · exact .inl (.inr z)⟩
theorem XH.next (x : XH H1 ι1 D H ι) (e : Ext H ι H' ι') : XH H1 ι1 D H' ι' where
  keep := fun a o h n => e.stay (x.keep a o h n) fun z => by
    rcases x.new a z with z | z
    · exact n z
    · rw [h] at z; cases z
  pre := fun n y h => e.pre n y (x.pre n y h)
  new := fun a m => by
    rcases e.newN a m with z | z
    · exact x.new a z
    · cases q : H1 a with
      | none => exact .inr rfl
      | some o =>
        by_cases hc : some a ∈ ι1.num
        · exact .inl hc
        · rw [x.keep a o q hc] at z; cases z
  hid := e.hid.trans x.hid
  fresh := x.fresh
theorem XH.put (x : XH H1 ι1 D H ι) (o : HO) : XH H1 ι1 D (upd H D o) ι :=
  ⟨fun a u h n => by rw [upd_ne (ne_of_none h x.fresh)]; exact x.keep a u h n, x.pre, x.new, x.hid, x.fresh⟩
theorem XH.first {o : HO} (h : H1 D = none) : XH H1 ι1 D (upd H1 D o) (ι1.hide D) :=
  ⟨fun a u q n => by rw [upd_ne (ne_of_none q h)]; exact q, fun _ _ q => q, fun _ q => .inl q, rfl, h⟩
theorem XH.mem (x : XH H1 ι1 D H ι) : D ∈ ι.hid := by rw [x.hid]; exact List.mem_cons_self
theorem XH.done (x : XH H1 ι1 D H ι) : Ext H1 ι1 H ι.show :=
  ⟨⟨fun a o h n => x.keep a o h fun z => n (.inl z), x.pre, fun a m => by
    rcases m with m | m
    · rcases x.new a m with z | z
      · exact .inl (.inl z)
      · exact .inr z
    · have m : a ∈ ι.hid.tail := m
      rw [x.hid] at m
      exact .inl (.inr m)⟩, by show ι.hid.tail = _; rw [x.hid]; rfl, fun a o _ h n => x.keep a o h n, x.new⟩
theorem XH.out (x : XH H1 ι1 D H ι) {S : Store} (s : RepS K H ι S) (s1 : ¬ ι1.has D) : ¬ ι.show.has D := fun m => by
  rcases m with m | m
  · exact (s.dis D x.mem).1 m
  · have m : D ∈ ι.hid.tail := m
    rw [x.hid] at m
    exact s1 (.inr m)
/-- the end: the list as a value -/
theorem XH.fin {c : Bool} {E : XK} {Q : VK} {acc : List MD.D} {vs : List V} {S : Store} (x : XH H1 ι1 D H ι) (s : RepS K H ι S) (n1 : ¬ ι1.has D) (hD : H D = some (.lst vs)) (hv : DenL K H ι vs acc) (h : Fi K (Den K) E H1 ι1 (finL c acc S) Q) : Q (.ref D) H := by
  have no := x.out s n1
  cases c with
  | false => exact h _ H ι.show x.done s.show (.lst ⟨.inl hD, no⟩ (DenL.ext0 Ext0.show _ hv))
  | true =>
    have e0 : Ext0 H ι H (ι.show.push D) := ⟨fun _ _ h _ => h, fun _ _ h => push_pre (ι := ι.show) h, fun a m => by
      rcases m with m | m
      · rcases push_mem m with z | z
        · exact .inl (.inl z)
        · subst z; exact .inl (.inr x.mem)
      · exact .inl (.inr (List.mem_of_mem_tail m))⟩
    have xd := x.done
    refine h _ H (ι.show.push D) ⟨⟨xd.keep, fun n y q => push_pre (xd.pre n y q), fun a m => ?_⟩, xd.hid, xd.keepH, fun a m => ?_⟩ (s.addG rfl (fun a m => ⟨List.mem_of_mem_tail m, fun z => no (.inr (z ▸ m))⟩) (fun m => no (.inl m)) (fun _ _ _ h => h) hD e0 ⟨D, vs, rfl, hD, DenL.ext0 e0 _ hv⟩ (.inl ⟨vs, rfl⟩)) (.loc ?_)
    · rcases m with m | m
      · rcases push_mem m with z | z
        · exact xd.new a (.inl z)
        · exact .inr (by rw [z]; exact x.fresh)
      · exact xd.new a (.inr m)
    · rcases push_mem m with z | z
      · exact xd.newN a z
      · exact .inr (by rw [z]; exact x.fresh)
    · rw [← s.len]
      show (ι.num ++ [some D])[ι.num.length]? = _
      rw [List.getElem?_append_right (Nat.le_refl _)]
      simp
end
section
variable {X : Cx} {W : WX} {tg iter elt : Expr} {it : IM} {g : GM} {sl : List Nat} {tt : BM} {te : EM} {scope : Scope} {own : List (Str × Nat)} {pos : Pos} {ifs : List Expr}
/-- a target's reading by itself -/
def gD (K : PySem.W.Frag) (m : GM) (sl : List Nat) : TG := fun v σ H Q => ∃ d ρ ρ' ι S, Den K H ι v d ∧ RepE K H ι σ ρ ∧ RepS K H ι S ∧ m d ρ S = some ρ' ∧ ∀ σ', RepE K H ι σ' ρ' → σ'.length = σ.length → (∀ i, i ∉ sl → σ'[i]? = σ[i]?) → Q σ' H
theorem PMg.pg (h : PMg X tg g sl) : PG X tg (gD X.K g sl) := by
  obtain ⟨t, p, q⟩ := h.ex
  exact ⟨fun pins s σ H v u Q I r ⟨d, ρ, ρ', ι, S, h1, h2, h3, e, hq⟩ => p.run pins s σ H v u Q I r (q v d σ ρ ρ' H ι S Q h1 h2 h3 e hq)⟩
/-- an iterable's, too -/
theorem PMi.pi (h : PMi X W tg iter it) : PI X tg iter (tI X.K W it) := by
  obtain ⟨t, p, q⟩ := h.ex
  exact ⟨fun pins s σ H R I h => p.run pins s σ H R I (q σ H R h)⟩
theorem pmts_nil : PTs X [] (tT X.K W bYes) := ⟨fun pins s σ H Q I ⟨ρ, S, ι, h1, h2, h⟩ => pts_nil.run pins s σ H Q I (h.here (v := true) h2 rfl)⟩
theorem pmts_one {c : Expr} {t : BM} (h : PT X c (tT X.K W t)) : PTs X [c] (tT X.K W t) := pts_one h
abbrev WN : WX := fun _ _ _ _ => False
theorem takesN {Y : Cx} (h : ∀ u s, Y.xe u s → Y.xe u s := by intro _ _ z; exact z) : Takes Y WN := fun u s' ⟨a, B, sI, pins, σ, H, cls, d, _, _, _, _, _, _, _, _, w⟩ => w.elim
theorem rd_lc {K : PySem.W.Frag} {c : Bool} {vs : List Nat} (hsl : ∀ i ∈ sl, i ∈ vs) {σ : L2.St} {H : Hp} {Q : VK} (h : tE K W (mLc c it g tt te vs) σ H Q) : tLc (tI K W it) (gD K g sl) (tT K WN tt) (tE K WN te) vs σ H Q := by
  refine tGen_mono (tGen.bind (R := fun H ι J a => Walk K J a H ι) (R' := Den K) (k := fun ρ p S1 => (lcL p.ck g tt te vs ρ p.xs [] S1).bind (finL c)) h) fun J H1 ⟨ρ, ι1, p, S1, e1, s1, w, f⟩ => ?_
  intro D hD
  have nD : ¬ ι1.has D := s1.fresh hD
  refine ⟨fun i k H' => k = p.xs.length - i ∧ i ≤ p.xs.length ∧ ∃ ι S acc vA, XH H1 ι1 D H' ι ∧ RepS K H' ι S ∧ H' D = some (.lst vA) ∧ DenL K H' ι vA acc ∧ Fi K (Den K) (fun cls dd H' => W cls dd σ H') H1 ι1 ((lcL p.ck g tt te vs ρ (p.xs.drop i) acc S).bind (finL c)) Q,
    ⟨p.xs.length, by simp, Nat.zero_le _, ι1.hide D, S1, [], [], .first hD, s1.hide hD, upd_same, .nil, by simpa using f⟩, fun i k H' ⟨hk, hi, ι, S, acc, vA, x, s, hA, hv, f⟩ => ?_⟩
  by_cases hlt : i < p.xs.length
  · obtain ⟨d, hd⟩ : ∃ d, p.xs[i]? = some d := ⟨p.xs[i], List.getElem?_eq_getElem hlt⟩
    have hdrop : p.xs.drop i = d :: p.xs.drop (i + 1) := by
      rw [List.drop_eq_getElem_cons hlt]
      rw [List.getElem?_eq_getElem hlt] at hd
      cases hd
      rfl
    rw [hdrop] at f
    unfold lcL at f
    split at f
    · rename_i hck
      obtain ⟨hgo, hy⟩ := w.go i d H' ι S x.ext0 s hck hd
      refine .inr ⟨hgo, fun H2 => ∃ ι S acc vA, XH H1 ι1 D H2 ι ∧ RepS K H2 ι S ∧ H2 D = some (.lst vA) ∧ DenL K H2 ι vA acc ∧ Fi K (Den K) (fun cls dd H' => W cls dd σ H') H1 ι1 ((lcL p.ck g tt te vs ρ (p.xs.drop (i + 1)) acc S).bind (finL c)) Q,
        fun H2 h2 => ⟨p.xs.length - (i + 1), by omega, rfl, hlt, h2⟩, fun v H2 hv2 => ?_⟩
      obtain ⟨x2, r2, dv⟩ := hy v H2 hv2
      have xx := x.next x2
      cases hgm : g d (wipeE ρ vs) S with
      | none => simp only [hgm] at f; exact f.elim
      | some ρ2 =>
        simp only [hgm] at f
        refine ⟨d, wipeE ρ vs, ρ2, ι, S, dv, (e1.wipe vs).ext0 xx.ext0, r2, hgm, fun σ3 he3 hl3 hk3 => ⟨wipe_same hsl hl3 hk3, ρ2, S, ι, he3, r2, ?_⟩⟩
        cases ht : tt ρ2 S with
        | bad => simp only [ht, noX] at f; exact f.elim
        | exc y S3 => simp only [ht, noX] at f; exact f.elim
        | ok b S3 =>
          simp only [ht, noX] at f
          intro b' H3 ι3 x3 r3 hb
          subst hb
          have stA : ∀ {H4 : Hp} {ι4 : Ix}, Ext H2 ι H4 ι4 → H4 D = some (.lst vA) ∧ DenL K H4 ι4 vA acc := fun {H4 ι4} x4 =>
            ⟨x4.stay (x2.stay hA (s.dis D x.mem).1) (r2.dis D x.mem).1, DenL.ext x4 _ (DenL.ext x2 _ hv)⟩
          cases b' with
          | false =>
            simp only [Bool.false_eq_true, if_false] at f ⊢
            obtain ⟨a1, a2⟩ := stA x3
            exact ⟨ι3, S3, acc, vA, xx.next x3, r3, a1, a2, f⟩
          | true =>
            simp only [if_true] at f ⊢
            refine ⟨ρ2, S3, ι3, he3.ext x3, r3, ?_⟩
            cases hte : te ρ2 S3 with
            | bad => simp only [hte, noX] at f; exact f.elim
            | exc y S4 => simp only [hte, noX] at f; exact f.elim
            | ok y S4 =>
              simp only [hte, noX] at f
              intro v4 H4 ι4 x4 r4 d4
              split at f
              · rename_i hz
                obtain ⟨a1, a2⟩ := stA (x3.trans x4)
                have x' := (xx.next x3).next x4
                exact ⟨vA, a1, by rw [a2.length]; exact hz, ι4, S4, acc ++ [y], vA ++ [v4], x'.put _, r4.hput x'.mem, upd_same, DenL.ext0 (Ext0.hput x'.mem) _ (a2.append (.cons d4 .nil)), f⟩
              · exact f.elim
    · exact f.elim
  · have hil : i = p.xs.length := Nat.le_antisymm hi (Nat.not_lt.mp hlt)
    have hdrop : p.xs.drop i = [] := List.drop_eq_nil_of_le (by omega)
    rw [hdrop] at f
    unfold lcL at f
    split at f
    · rename_i hck
      exact .inl ⟨w.stop i H' ι S x.ext0 s hck (by omega), x.fin s nD hA hv f⟩
    · exact f.elim
theorem pm_lc (c : Bool) (hc : X.calm = true) (hN : X.N.Nodup) (hi : PMi X W tg iter it) (ok : BlkOk X.N X.env.scope scope own)
    (hg : ∀ (s : Shared) (H : Hp) (C : Addr) (cl : List (Str × Addr)) (fp : List Addr), PMg (X.blk s H scope (compEnvC scope cl C X.env) fp) tg g sl)
    (ht : ∀ (s : Shared) (H : Hp) (C : Addr) (cl : List (Str × Addr)) (fp : List Addr), PTs (X.blk s H scope (compEnvC scope cl C X.env) fp) ifs (tT X.K WN tt))
    (he : ∀ (s : Shared) (H : Hp) (C : Addr) (cl : List (Str × Addr)) (fp : List Addr), PE (X.blk s H scope (compEnvC scope cl C X.env) fp) elt (tE X.K WN te))
    (hs : ∀ x, foldedSetIterable iter X.env x = pure x := by intro _; rfl) (hsl : ∀ i ∈ sl, i ∈ own.map (·.2) := by decide) :
    PE X (.ListComp elt [⟨tg, iter, ifs, 0⟩] scope pos) (tE X.K W (mLc c it g tt te (own.map (·.2)))) :=
  pe_weak (pe_lc hc hN hi.pi ok (fun s H C cl fp => (hg s H C cl fp).pg) ht he hs) fun _ _ _ h => rd_lc hsl h
end
end MD

set_option maxHeartbeats 4000000
namespace MD
open PySem PySem.Spec PyProof.Rows L2

/-! ### raise -/
section
variable {X : Cx} {W : WX} {K : PySem.W.Frag} {B : Base} {pos : Pos}
/-- an expression that makes an exception: x with its fields -/
@[simp] def sRaise (C : Addr) : SM := fun ρ S => .exc ⟨C, none⟩ ρ S
theorem pm_raise {e : Expr} {C : Addr} (hc : X.calm = true) (tk : Takes X W) (he : PMk X e (fun _ H Q => Q (.ref C) none H)) : PS X (.Raise (some e) none pos) (tS X.K W B (sRaise C)) :=
  ps_weak (ps_raise hc tk he) fun D σ H ⟨ρ, S, ι, s, f⟩ => f σ H ι _ _ s ⟨rfl, rfl⟩
/-- X(e) with one field -/
@[simp] def sRaiseF (C : Addr) (f : Str) (e : EM) : SM := fun ρ S => sDo (e ρ S) ρ fun d S1 => .exc ⟨C, some [(f, d)]⟩ ρ S1
/-- what such a maker does: the dict is new -/
def tMk1 (C : Addr) (f : Str) (te : TE) : L2.St → Hp → XK → Prop := fun σ H Q => te σ H fun v H1 => ∀ d, H1 d = none → Q (.ref C) (some d) (upd H1 d (.xd [(f, v)]))
theorem pm_raiseF {e a : Expr} {C : Addr} {f : Str} {ma : EM} (hc : X.calm = true) (tk : Takes X W) (he : PMk X e (tMk1 C f (tE X.K W ma))) : PS X (.Raise (some e) none pos) (tS X.K W B (sRaiseF C f ma)) :=
  ps_weak (ps_raise hc tk he) fun D σ H h => by
    refine tGen_mono (tS_do (R := Den X.K) (k := fun ρ d S1 => .exc ⟨C, some [(f, d)]⟩ ρ S1) h) fun v H1 ⟨ρ, ι1, x, S1, s, dd, g⟩ d hd => ?_
    have s2 := s.next (Ext.laid (o := .xd [(f, v)]) hd) (s.s.laid hd)
    refine g σ _ ι1 _ _ s2 ⟨rfl, d, [(f, v)], rfl, upd_same, s.s.fresh hd, rfl, .cons (Den.ext (Ext.laid hd) _ dd) .nil⟩

/-! the exception whose __init__ says B.__init__(self, 'm'); self.f = f -/
/-- B's __init__ is ValueError's -/
structure BaseI (K : PySem.W.Frag) (CB : Addr) : Prop where
  ga : PySem.W.specialIn K (.ref CB) "__getattribute__" = some (some (.builtin "type.__getattribute__"))
  rd : PySem.W.readsIn K CB (.type "type") = true
  fi : PySem.W.findCls K (.ref CB) (.type "type") "__init__" = some (.val (.builtin "ValueError.__init__"))
theorem pe_binit {pl : Sem Bool} {x : Str} {CB : Addr} {p1 p2 : Pos} {e : Expr} {es : List Expr} {ta : TA} (hg : Gl X x) (hm : X.mg x = some (.ref CB)) (b : BaseI X.K CB) (ha : PA X (e :: es) ta) (hdb : (x == ("__debug__" : Str)) = false := by decide)
    (hc : eval (.Call (.Attribute (.Name x p1) "__init__" p2) (e :: es) [] pos) X.env = (do
      let ov ← eval (.Name x p1) X.env
      standAt p2.atName
      let (f, first) ← holding [ov] (getMethod ov "__init__" pl)
      callWith pos f first (backTo pos (starEach (e :: es) X.env)) (backToKw pos (keywordEach [] X.env))) := by rfl)
    (he : starEach (e :: es) X.env = (false, eval e X.env) :: starEach es X.env := by rfl) (hpl : (backTo pos (starEach es X.env)).any (·.1) = false := by rfl) :
    PE X (.Call (.Attribute (.Name x p1) "__init__" p2) (e :: es) [] pos) (tVeI X.K ta) := by
  refine ⟨fun pins s σ H Q I h => ?_⟩
  refine PySem.W.methodCall_KW (ld_glob I hg hm ?_ hdb) hc
  refine PySem.W.method_cls I.kIn b.ga (PySem.W.cls_value I.kIn b.rd b.fi (by decide +kernel) ?_)
  refine PyProof.Rows.callWith_method1 (thn (ha.run pos pins _ σ H _ (I.tok _) h) fun us s1 ⟨vs, H1, I1, r1, a, C, ws, ev, hl, T, ea, q⟩ => ?_) he hpl
  subst ev
  cases r1 with
  | @cons _ u0 _ ur ra rw' =>
    obtain rfl : u0 = Value.ref a := ra
    have hlen : ur.length ≤ sizeLine := by
      rw [← Paired.length rw', sizeLine_eq]
      omega
    exact oinit_ok T I1 ea hlen fun s' J => ⟨.non, H1, J, rfl, q⟩
end
/-- the promise of that __init__ -/
def spInit (C : Addr) (f : Str) : Sp := fun vs H Q _ => ∃ a v, vs = [.ref a, v] ∧ H a = some (exo a C none) ∧ ∀ dx, H dx = none → dx ≠ a → Q .non (upd (upd H dx (exd dx [(f, v)])) a (exo a C (some dx)))
section
variable {P : Program} {w : World} {K : PySem.W.Frag} {mg : Str → Option Value} {base : Heap}
theorem init_ok {k : Nat} {fI C CB : Addr} {fd : FuncData} {qual xb f m : Str} {params : Arguments} {scope : Scope} {p1 p2 p3 p4 p5 p6 p7 p8 p9 p10 : Pos} {j : Nat}
    (F : FunD K "__init__" qual params [.Expr (.Call (.Attribute (.Name xb p1) "__init__" p2) [.Name "self" p3, .Constant (.str m) j p4] [] p5) p6, .Assign [.Attribute (.Name "self" p7) f p8] (.Name f p9) p10] scope [] [] fI fd)
    (Sc : FnScope ["self", f] ["self", f] scope) (hm : mg xb = some (.ref CB)) (hb : BaseI K CB) (T : OexC K C) (hno : PySem.W.findIn K (.ref C) f = some none)
    (hside : ∀ (cdv : Value) (A : Around) (outer : List PySem.Env) (s : Shared) (H : Hp) (E : XK), PSs (cxB P w K mg base ["self", f] qual scope fI cdv A outer s H E) [.Expr (.Call (.Attribute (.Name xb p1) "__init__" p2) [.Name "self" p3, .Constant (.str m) j p4] [] p5) p6, .Assign [.Attribute (.Name "self" p7) f p8] (.Name f p9) p10]
      (tSeq (tDrop (tVeI K (tCons (tVar 0) (tCons (tC (.str m)) tNil)))) (tOst K f (tVar 0) (tVar 1)))) :
    FnOk P w K mg base (L2.CX P w) (k + 1) fI fd ["self", f] (spInit C f) :=
  F.ok Sc (fun vs H Q E ⟨a, v, e, _⟩ => by rw [e]; rfl) fun cdv A outer s H vs Q E hr ⟨a, v, e, ha, q⟩ => by
    subst e
    refine ⟨_, hside cdv A outer s H E, ?_⟩
    refine ⟨.ref a, rfl, a, C, [.str m], rfl, by simp, T, ha, ?_⟩
    exact ⟨v, rfl, .ref a, rfl, a, C, rfl, T, hno, .inl ⟨ha, fun dx hd ne => q dx hd ne⟩⟩
end
section
variable {X : Cx} {W : WX} {K : PySem.W.Frag} {B : Base} {p pos : Pos}
theorem pmk_init {x : Str} {C fI : Addr} {k : Nat} {fd : FuncData} {f : Str} {e : Expr} {te : TE} (T : OexC X.K C) (iC : PySem.W.findIn X.K (.ref C) "__init__" = some (some (.ref fI))) (tI : PySem.W.typeIn X.K (.ref fI) = some (.type "function"))
    (F1 : FnOk X.prog X.w X.K X.mg X.base (L2.CX X.prog X.w) k fI fd ["self", f] (spInit C f)) (hr : Room (k + 1) X.A) (hb : Binds X.K fd ["self", f] []) (hm : X.mg x = some (.ref C)) (he : PE X e te) (hmono : ∀ σ H (Q Q' : VK), te σ H Q → (∀ v H1, Q v H1 → Q' v H1) → te σ H Q')
    (hg : Gl X x := by rfl) (hdb : (x == ("__debug__" : Str)) = false := by decide) (hst : starEach [e] X.env = (false, eval e X.env) :: starEach [] X.env := by rfl) (hpl : (backTo pos (starEach [] X.env)).any (·.1) = false := by rfl) :
    PMk X (.Call (.Name x p) [e] [] pos) (tMk1 C f te) := by
  have key := pmk_oex (pos := pos) (p := p) (dvs := []) T iC tI F1 hr hb .nil (fun _ _ _ _ _ _ _ c => by obtain ⟨_, _, _, _, _, _, _, _, _, _, _, _, z⟩ := c; exact z.elim) hg hm (pa_cons he pa_nil hst) hdb hst hpl
  intro pins s σ H Q I h
  refine key pins s σ H Q I ?_
  refine hmono _ _ _ _ h fun v H1 q => ⟨by simp, fun a ha => ⟨a, v, by simp, upd_same, fun dx hd ne => ⟨rfl, dx, [(f, v)], upd_same, ?_, ?_, ?_⟩⟩⟩
  · rw [upd_ne ne, upd_same]
  · rw [upd_ne ne] at hd; exact hd
  · rw [upd_ne ne] at hd
    have z := q dx hd
    have e : upd (del (upd (upd (upd H1 a (exo a C none)) dx (exd dx [(f, v)])) a (exo a C (some dx))) a) dx (.xd [(f, v)]) = upd H1 dx (.xd [(f, v)]) := by
      funext b
      by_cases h1 : b = dx
      · rw [h1, upd_same, upd_same]
      · rw [upd_ne h1, upd_ne h1]
        by_cases h2 : b = a
        · rw [h2, del_same, ha]
        · rw [del_ne h2, upd_ne h2, upd_ne h1, upd_ne h2]
    rw [e]
    exact z
end

/-! ### try: body; except C as n: suite: the exception is a numbered object in the suite -/
section
variable {X : Cx} {pins : List (Addr × Obj)} {σ : L2.St} {H : Hp} {s : Shared}
theorem _root_.L2.Inv.suite0 (I : Inv X pins σ H s) (a : Addr) : Inv (X.suite a (X.pn ++ pins)) [] σ H s :=
  ⟨I.ok.suite _ _, I.os, I.bare, I.base, I.loc, I.cell, I.free, I.freeC, fun p hp => I.pin p (by rw [List.append_nil] at hp; exact hp), I.hok, I.len⟩
theorem _root_.L2.Inv.unsuite0 {a : Addr} {pn' : List (Addr × Obj)} (I : Inv (X.suite a (X.pn ++ pins)) pn' σ H s) (ok : X.Ok) : Inv X pins σ H s :=
  ⟨ok, I.os, I.bare, I.base, I.loc, I.cell, I.free, I.freeC, fun p hp => I.pin p (List.mem_append_left _ hp), I.hok, I.len⟩
/-- an object that stands and is not tracked yet -/
theorem _root_.L2.Inv.track {a C : Addr} {dd : Option Addr} {oe : Obj} {vs : Array Value} (I : Inv X pins σ H s) (ha : s.heap.get? a = some oe) (hc : oe.cls = .ref C) (hd : oe.dict = dd) (hv : oe.data = .fields vs) (na : H a = none) (nL : a ≠ X.env.locals)
    (n0 : X.s_0.heap.get? a = none) (np : ∀ p ∈ X.pn ++ pins, p.1 ≠ a) : Inv X pins σ (upd H a (ExK C dd a)) s := by
  have kk : ∀ b o, H b = some o → upd H a (ExK C dd a) b = some o := fun b o e => by rw [upd_ne (ne_of_none e na)]; exact e
  refine ⟨I.ok, I.os, I.bare, ⟨I.base.keep, I.base.slot, fun b o e n hx => ?_, I.base.there, fun b xs e => kk _ _ (I.base.tups b xs e), fun b o xs e => kk _ _ (I.base.frzs b o xs e), fun b ps e => ?_⟩, I.loc, I.cell, ?_, fun x c e => ?_, fun p hp => ?_, fun b o e => ?_, I.len⟩
  · rw [upd_ne (fun z => by rw [z, n0] at e; cases e)]; exact I.base.free b o e n hx
  · obtain ⟨more, q⟩ := I.base.tbls b ps e
    exact ⟨more, kk _ _ q⟩
  · rw [upd_ne (Ne.symm nL)]; exact I.free
  · obtain ⟨v, q⟩ := I.cell x c e
    have z := I.freeC x c e
    rw [upd_ne]
    · exact z
    · intro z'
      subst z'
      obtain ⟨o, q1, q2⟩ := q
      rw [ha] at q1
      cases q1
      rw [hv] at q2
      cases q2
  · obtain ⟨e, n, ne, nf, d⟩ := I.pin p hp
    exact ⟨e, by rw [upd_ne (np p hp)]; exact n, ne, nf, d⟩
  · by_cases hb : b = a
    · subst hb
      rw [upd_same] at e
      cases e
      exact exK_ok ha hc hd hv
    · rw [upd_ne hb] at e
      exact (I.hok b o e).stay (fun _ _ _ q => q) (fun c q => kk _ _ q) fun c xs q => kk _ _ q
end

/-- what the clause wishes of an exception of the body -/
def wTrk (K : PySem.W.Frag) (c : Value) (i : Nat) (ts : TS) (Wout : WX) (D : Ends) : WX := fun cls d σ H =>
  ∃ (C : Addr) (b : Bool), cls = .ref C ∧ PySem.W.exmOne K cls c = some b ∧ (b = true → ∀ a, H a = none → ts { nx := fun σ' H' => D.nx (σ'.set i none) H', rt := D.rt, bk := fun σ' H' => D.bk (σ'.set i none) H', ct := fun σ' H' => D.ct (σ'.set i none) H' } (σ.set i (some (.ref a))) (upd H a (ExK C d a))) ∧
    (b = false → Wout cls d σ H)
section
variable {X : Cx} {x n : Str} {c : Value} {i : Nat} {body suite : List Stmt} {b₀ : Stmt} {np pos pos' : Pos} {tb : WX → TS} {ts : TS} {Wout : WX}
theorem ps_try_trk (hs : X.stack = X.env :: X.outer) (hf : X.env.frame = some X.env.locals) (hex : X.ex = []) (hN : X.N.Nodup) (hi : X.N[i]? = some n) (hln : X.env.kindOf n = some .local) (hc : Names X x c) (tk : Takes X Wout)
    (hb : ∀ (W : WX) (pn : List (Addr × Obj)) (xe : Value → Shared → Prop), Takes (X.tr pn xe) W → PassesOwn (model X.prog X.w) X.A X.env xe → PSs (X.tr pn xe) body (tb W))
    (hsu : ∀ (a : Addr) (pn : List (Addr × Obj)), PSs (X.suite a pn) (b₀ :: suite) ts) :
    PS X (.Try body [.ExceptHandler (some (.Name x np)) (some n) (b₀ :: suite) pos'] [] [] pos) (fun D σ H => tb (wTrk X.K c i ts Wout D) D σ H) := by
  refine ⟨fun pins s σ H D I h => ?_⟩
  have ok := I.ok
  have hfr : X.A.frames = some (X.env :: X.outer) := by rw [ok.frames, hs]
  have hloc : Loc X.env.scope n := .inl hln
  refine wpAny_Try_except (wpAny_mono ((hb (wTrk X.K c i ts Wout D) (X.pn ++ pins) (fun e s₁ => wpAny (model X.prog X.w) X.A (noteFrame e X.env) (fun _ s₂ => wpAny (model X.prog X.w) X.A (setFlight e none) (fun _ s₃ =>
    wpAny (model X.prog X.w) X.A (handleBy e X.env [.ExceptHandler (some (.Name x np)) (some n) (b₀ :: suite) pos']) (SP X pins D) X.xe s₃) X.xe s₂) X.xe s₁) (fun u s' xx => ?_) PassesOwn.looking).run [] s σ H D (I.toTry _) h) (fun f s1 hsp => ?_) (fun e s1 he => he))
  · obtain ⟨a, G, sI, pins', σ', H', cls, d, rfl, J', nb, up, sky, na, os, ag, C, b, hC, hb1, hyes, hno⟩ := xx
    subst hC
    have J : Inv X pins σ' H' sI := J'.ofTry ok
    have sky' : Sky G (X.env :: X.outer) a (Zc (.ref C) d) X.env.locals s'.heap := by rw [← hs]; exact sky
    show wpAny (model X.prog X.w) X.A (noteFrame (.ref a) X.env) _ _ _
    refine Sky.land Zc.steady hfr hf sky' fun h3 fl3 up3 => ?_
    have J3 : Inv X pins σ' H' { s' with heap := h3 } := J.landed nb fl3.1 (up.trans up3) os ag
    obtain ⟨oe3, vs3, he3, hz3, hd3⟩ := fl3.there
    have nfr : a ∉ frs (X.env :: X.outer) := fun hm => by
      obtain ⟨_, o', e', hnf⟩ := fl3.2.2.1.mem hm
      rw [he3] at e'; cases e'
      exact hnf _ hd3
    have nfs : a ∉ frs X.stack := by rw [hs]; exact nfr
    have nL : a ≠ X.env.locals := fun z => nfr (List.mem_filterMap.mpr ⟨X.env, List.mem_cons_self, by rw [hf, z]⟩)
    have nI : sI.heap.get? a = none := by
      cases q : sI.heap.get? a with
      | none => rfl
      | some o =>
        have z := nb a o q nfs
        rw [fl3.2.1] at z; cases z
    have n0 : X.s_0.heap.get? a = none := by
      cases q : X.s_0.heap.get? a with
      | none => rfl
      | some o =>
        obtain ⟨o', z⟩ := J.base.there a o q (by rw [hex]; simp)
        rw [nI] at z; cases z
    have npp : ∀ p ∈ X.pn ++ pins, p.1 ≠ a := fun p hp z => by
      have := (J.pin p hp).1
      rw [z, nI] at this; cases this
    refine wpAny_handleBy_cons (codeAny_handlers_test ?_) (by intro q; cases q)
    have LT : PySem.W.Looks (model X.prog X.w) h3 (typeOf (.ref a)) (.ref C) := fun A Q E s k q => wpAny_typeOf_ref (k _ _ he3) (by rw [hz3.1]; exact q)
    have LM := PySem.W.exm_one (M := model X.prog X.w) (J3.kIn) LT hb1
    have S3 : Inv (X.suite a (X.pn ++ pins)) [] σ' H' { s' with heap := h3 } := J3.suite0 a
    have test : ∀ {Q : Value → Shared → Prop} {E : Value → Shared → Prop}, Q c { s' with heap := h3 } → wpAny (model X.prog X.w) (X.A.mark (some (.ref a))) (eval (.Name x np) X.env) Q E { s' with heap := h3 } := fun {Q E} q => by
      obtain ⟨hg, hdbg, hm | ⟨hm, hv, hnn⟩⟩ := hc
      · exact ld_glob (X := X.suite a (X.pn ++ pins)) S3 hg hm q hdbg
      · exact ld_blt (X := X.suite a (X.pn ++ pins)) S3 hg hm hv q hnn hdbg
    refine test (LM.here ?_)
    cases b with
    | true =>
      refine codeAny_handlers_suite_as (HandSPX.lands_againZ fl3 fun h4 fl4 up4 => ?_)
      have J4 : Inv X pins σ' H' { s' with heap := h4 } := J.landed nb fl4.1 ((up.trans up3).trans up4) os ag
      obtain ⟨oe4, vs4, he4, hz4, hd4⟩ := fl4.there
      have S4 : Inv (X.suite a (X.pn ++ pins)) [] σ' (upd H' a (ExK C d a)) { s' with heap := h4 } := (J4.track he4 hz4.1 hz4.2 hd4 na nL n0 npp).suite0 a
      refine store_ok (X := X.suite a (X.pn ++ pins)) (v := .ref a) S4 hN hi hloc rfl (fun s5 S5 => ?_) (.inr hln)
      refine wpAny_mono ((hsu a (X.pn ++ pins)).run [] s5 _ _ _ S5 (hyes rfl a na)) (fun f s6 hsp => ?_) (fun _ _ z => False.elim z)
      have end_ : ∀ {σ6 : L2.St} {H6 : Hp} {Q : Shared → Prop}, Inv (X.suite a (X.pn ++ pins)) [] σ6 H6 s6 → (∀ s7, Inv X pins (σ6.set i none) H6 s7 → Q s7) →
          wpAny (model X.prog X.w) X.A (do bindName X.env n .none; unbindBehindTheSuite X.env n pos') (fun _ s7 => Q s7) X.xe s6 := fun {σ6 H6 Q} S6 hq => gone_ok (S6.unsuite0 ok) hN hi hln hq
      cases f with
      | next =>
        obtain ⟨σ6, H6, S6, q6⟩ := hsp
        exact end_ S6 fun s7 J7 => ⟨_, _, J7, q6⟩
      | brk =>
        obtain ⟨σ6, H6, S6, q6⟩ := hsp
        exact end_ S6 fun s7 J7 => ⟨_, _, J7, q6⟩
      | cont =>
        obtain ⟨σ6, H6, S6, q6⟩ := hsp
        exact end_ S6 fun s7 J7 => ⟨_, _, J7, q6⟩
      | ret u =>
        obtain ⟨v6, σ6, H6, S6, r6, q6⟩ := hsp
        exact end_ S6 fun s7 J7 => ⟨_, _, _, J7, r6, q6⟩
    | false =>
      show wpAny _ X.A (handleBy (.ref a) X.env []) _ _ _
      refine wpAny_handleBy_nil ?_
      obtain ⟨k1, k2, k3, oe, vs, T, oT, ts', he, hz, hd, h1, hr⟩ := id fl3
      unfold PySem.passOn
      refine wpAny_bind (wpAny_field he hd h1 ?_)
      rw [if_neg (show ¬ ((Value.ref T == Value.none) = true) from by simp)]
      have fin : wpAny (model X.prog X.w) X.A (setFlight (.ref a) X.env.frame) (fun _ s4 => wpAny (model X.prog X.w) X.A (throw (.ref a) : Sem Flow) (SP X pins D) X.xe s4) X.xe { s' with heap := h3 } := by
        rw [hf]
        refine HandSPX.setFlight_upZ fl3 fun h4 hh4 up4 => wpAny_throw (tk _ _ ?_)
        exact ⟨a, G, sI, pins, σ', H', _, d, rfl, J, nb, (up.trans up3).trans up4, .inr (.inr (by rw [hs]; exact hh4)), na, os, ag, hno rfl⟩
      first
        | exact wpAny_bind (wpAny_pure (wpAny_bind fin))
        | exact wpAny_bind fin
  · cases f with
    | next =>
      obtain ⟨σ', H', J', q⟩ := hsp
      exact wpAny_execs_nil ⟨σ', H', J'.ofTry ok, q⟩
    | brk =>
      obtain ⟨σ', H', J', q⟩ := hsp
      exact ⟨σ', H', J'.ofTry ok, q⟩
    | cont =>
      obtain ⟨σ', H', J', q⟩ := hsp
      exact ⟨σ', H', J'.ofTry ok, q⟩
    | ret u =>
      obtain ⟨v, σ', H', J', r, q⟩ := hsp
      exact ⟨v, σ', H', J'.ofTry ok, r, q⟩
/-- .. as a function: cs tells which classes are taken -/
def sTry (cs : List (Addr × Bool)) (i : Nat) (suite body : SM) : SM := fun ρ S => match body ρ S with
  | .exc y ρ1 S1 => match cs.lookup y.cls with
    | some true => match suite (ρ1.set i (some (.loc S1.length))) (S1 ++ [.exc y]) with
      | .nx ρ2 S2 => .nx (ρ2.set i none) S2
      | .bk ρ2 S2 => .bk (ρ2.set i none) S2
      | .ct ρ2 S2 => .ct (ρ2.set i none) S2
      | .rt d S2 => .rt d S2
      | _ => .bad
    | some false => .exc y ρ1 S1
    | none => .bad
  | r => r
theorem Sta.forget {K : PySem.W.Frag} {B : Base} {σ : L2.St} {ρ : MD.Env} {H : Hp} {ι : Ix} {S : Store} (s : Sta K B σ ρ H ι S) (i : Nat) : Sta K B (σ.set i none) (ρ.set i none) H ι S := ⟨s.e.forget i none, s.s, s.b⟩
theorem pm_try {W : WX} {B : Base} {cs : List (Addr × Bool)} {mb msu : SM} (hs : X.stack = X.env :: X.outer) (hf : X.env.frame = some X.env.locals) (hex : X.ex = []) (hN : X.N.Nodup) (hi : X.N[i]? = some n) (hln : X.env.kindOf n = some .local) (hc : Names X x c) (tk : Takes X W)
    (hcs : ∀ C b, cs.lookup C = some b → PySem.W.exmOne X.K (.ref C) c = some b)
    (hb : ∀ (W : WX) (pn : List (Addr × Obj)) (xe : Value → Shared → Prop), Takes (X.tr pn xe) W → PassesOwn (model X.prog X.w) X.A X.env xe → PSs (X.tr pn xe) body (tS X.K W B mb))
    (hsu : ∀ (a : Addr) (pn : List (Addr × Obj)), PSs (X.suite a pn) (b₀ :: suite) (tS X.K WN B msu)) :
    PS X (.Try body [.ExceptHandler (some (.Name x np)) (some n) (b₀ :: suite) pos'] [] [] pos) (tS X.K W B (sTry cs i msu mb)) := by
  refine ps_weak (ps_try_trk (ts := tS X.K WN B msu) hs hf hex hN hi hln hc tk hb hsu) fun D σ H ⟨ρ, S, ι, s, f⟩ => ⟨ρ, S, ι, s, ?_⟩
  unfold sTry at f
  cases q : mb ρ S with
  | nx ρ1 S1 => simp only [q] at f; exact f
  | rt d S1 => simp only [q] at f; exact f
  | bk ρ1 S1 => simp only [q] at f; exact f
  | ct ρ1 S1 => simp only [q] at f; exact f
  | bad => simp only [q] at f; exact f
  | exc y ρ1 S1 =>
    simp only [q] at f
    intro σ1 H1 ι1 cls dd s1 e1
    cases hl : cs.lookup y.cls with
    | none => simp only [hl] at f; exact f.elim
    | some b =>
      refine ⟨y.cls, b, e1.1, by rw [e1.1]; exact hcs _ _ hl, fun hb a ha => ?_, fun hb => ?_⟩
      · subst hb
        simp only [hl] at f
        have x1 : Ext H1 ι1 (upd H1 a (ExK y.cls dd a)) (ι1.push a) := Ext.cell ha
        have r1 : RepS X.K (upd H1 a (ExK y.cls dd a)) (ι1.push a) (S1 ++ [.exc y]) := s1.s.add ha ⟨a, dd, rfl, upd_same, e1.2.ext x1⟩ (.inr (.inr ⟨_, _, _, rfl⟩))
        have s2 := s1.next x1 r1
        have dn : Den X.K (upd H1 a (ExK y.cls dd a)) (ι1.push a) (.ref a) (.loc S1.length) := .loc (by
          rw [← s1.s.len]
          show (ι1.num ++ [some a])[ι1.num.length]? = _
          rw [List.getElem?_append_right (Nat.le_refl _)]
          simp)
        refine ⟨_, _, _, s2.set i dn, ?_⟩
        cases hm : msu (ρ1.set i (some (.loc S1.length))) (S1 ++ [.exc y]) with
        | nx ρ2 S2 => simp only [hm] at f; exact fun σ3 H3 ι3 s3 => f _ _ _ (s3.forget i)
        | bk ρ2 S2 => simp only [hm] at f; exact fun σ3 H3 ι3 s3 => f _ _ _ (s3.forget i)
        | ct ρ2 S2 => simp only [hm] at f; exact fun σ3 H3 ι3 s3 => f _ _ _ (s3.forget i)
        | rt d S2 => simp only [hm] at f; exact f
        | exc z ρ2 S2 => simp only [hm] at f; exact f.elim
        | bad => simp only [hm] at f; exact f.elim
      · subst hb
        simp only [hl] at f
        exact f σ1 H1 ι1 cls dd s1 e1
end
end MD

set_option maxHeartbeats 4000000
namespace MD
open PySem PySem.Spec PyProof.Rows L2

/-! ### repr -/
section
variable {X : Cx} {W : WX} {K : PySem.W.Frag}
def showsOk (p : PyData) : Bool := PyData.showable p && !PyData.hasDict p && decide (p.depth ≤ 60) && decide (p.shown.length ≤ sizeLine)
def rRep (K : PySem.W.Frag) : List V → Hp → VK → Prop := fun xs H Q => ∃ x p, xs = [x] ∧ Dp K H x p ∧ showsOk p = true ∧ Q (.str p.shown) H
theorem call_repr (hg : X.A.guards = some []) (hu : X.A.units + 100 < cLine) : CallR X (.builtin "repr") (rRep X.K) := by
  intro pins s σ H xs us Q I r h
  obtain ⟨x, p, rfl, hd, hs, q⟩ := h
  obtain ⟨u, rfl, ru⟩ := vals1 r
  obtain ⟨as, rd⟩ := Dp.reads I p x u hd ru
  unfold showsOk at hs
  simp only [Bool.and_eq_true, Bool.not_eq_true', decide_eq_true_eq] at hs
  obtain ⟨⟨⟨h1, h2⟩, h3⟩, h4⟩ := hs
  have fin : ∀ (t : Tok) (h' : Heap) (tk : Nat), (∀ b o, s.heap.get? b = some o → h'.get? b = some o) → EP X pins σ Q (.str p.shown t) { s with heap := h', toks := tk } := fun t h' tk k => ⟨.str p.shown, H, I.kept k, ⟨t, rfl⟩, q⟩
  have same : ∀ b o, s.heap.get? b = some o → s.heap.get? b = some o := fun _ _ e => e
  cases rd with
  | none =>
    have e : PyData.shown .none = "None" := by simp only [PyData.shown]
    rw [e] at fin
    exact PySem.P.repr_of_none (fin _ s.heap _ same)
  | bool b =>
    have e : PyData.shown (.bool b) = if b then Str.ofString "True" else Str.ofString "False" := by cases b <;> simp only [PyData.shown] <;> rfl
    rw [e] at fin
    exact PySem.P.repr_of_bool (fin _ s.heap _ same)
  | int i t =>
    have e : PyData.shown (.int i) = toString i := by simp only [PyData.shown]
    rw [e] at fin
    exact PySem.P.repr_of_int (by simpa [PyData.showable] using h1) (fin _ s.heap _ same)
  | str y t =>
    have e : PyData.shown (.str y) = reprText y := by simp only [PyData.shown]
    rw [e] at fin h4
    exact PySem.P.repr_of_str (fin _ s.heap _ same) h4
  | list a b c d => exact PySem.repr_of_reads' (.list a b c d) h1 (PyData.noDict_hsm h2) hg (by omega) same (fun h' t tk k => fin t h' tk k) h4
  | tuple a b c d => exact PySem.repr_of_reads' (.tuple a b c d) h1 (PyData.noDict_hsm h2) hg (by omega) same (fun h' t tk k => fin t h' tk k) h4
  | dict => simp [PyData.hasDict] at h2
def repF : D → Store → Res D := fun d S => match flatS S d with
  | some p => if showsOk p = true then .ok (.str p.shown) S else .bad
  | none => .bad
theorem ap_repr : AppR K (rRep K) (one repF) := appR_one fun E H ι S v d Q s h hf => by
  unfold repF at hf
  split at hf
  · rename_i p e
    split at hf
    · exact ⟨v, p, rfl, flat_dp s _ d v p h e, by assumption, hf.here s (.str _)⟩
    · exact hf.elim
  · exact hf.elim
end

/-! ### calls by names alone -/
/-- a def, called with the names ks: perm brings the values into the def's sequence -/
structure CalK (P : Program) (w : World) (K : PySem.W.Frag) (mg : Str → Option Value) (base : Heap) (k : Nat) (x : Str) (ks : List Str) (n : Nat) (perm : List Nat) (G : FM) : Prop where
  ex : ∃ (f : Addr) (fd : FuncData) (ps : List Str), ps.length = n ∧ FnG P w K mg base k f fd ps (spM K n G) ∧ mg x = some (.ref f) ∧ PySem.W.keepIn K (.ref f) = true ∧
    ∀ (s : Shared) (ws : List Value), K.In s.heap → ws.length = ks.length → BindsTo s fd ⟨[], ks.zip ws⟩ (ps.zip (perm.map fun i => ws.getD i .none))
def permD (perm : List Nat) (ds : List D) : List D := perm.map fun i => ds.getD i .non
section
variable {X : Cx} {W : WX} {K : PySem.W.Frag} {k n : Nat} {G : FM} {x : Str} {ks : List Str} {perm : List Nat} {p pos : Pos} {kws : List Keyword} {t : AM} {ta : TA}
theorem runGK {pins : List (Addr × Obj)} {σ : L2.St} {H : Hp} {s : Shared} {Q : VK} {f : Addr} {fd : FuncData} {ps : List Str} {sp : Sp} {args : Args} {us : List Value} {vs : List V} (F : FnG X.prog X.w X.K X.mg X.base k f fd ps sp) (hr : Rm k X.A) (hx : PassAt X W)
    (I : Inv X pins σ H s) (hb : BindsTo s fd args (ps.zip us)) (r : Vals vs us) (h : sp vs H Q fun cls dd H' => W cls dd σ H') : wpAny (model X.prog X.w) X.A (call (.ref f) args.pos args.kw) (EP X pins σ Q) X.xe s :=
  wpAny_call (codeAny_mono (runG F hr hx I hb r h) fun q s' z => by
    cases q with
    | error e => exact z
    | ok fl =>
      cases fl with
      | ret u => exact z
      | next | brk | cont => exact z.elim)
/-- argument lists by names -/
structure PMk' (X : Cx) (W : WX) (kws : List Keyword) (t : AM) : Prop where
  run : PK X kws (tA X.K W t)
theorem pmk_nil' : PMk' X W [] aNil := ⟨⟨fun pos pins s σ H Q I ⟨ρ, S, ι, h1, h2, h⟩ => pk_nil.run pos pins s σ H Q I (h.here h2 .nil)⟩⟩
theorem pmk_cons' {nm : Option Str} {e : Expr} {kpos : Pos} {m : EM} (ha : PE X e (tE X.K W m)) (hr : PMk' X W kws t) : PMk' X W (⟨nm, e, kpos⟩ :: kws) (aCons m t) :=
  ⟨⟨fun pos pins s σ H Q I h => (pk_cons ha hr.run).run pos pins s σ H Q I (rd_cons h)⟩⟩
theorem valsGetD : ∀ {vs : List V} {us : List Value} (i : Nat), Vals vs us → RelV (vs.getD i .non) (us.getD i .none)
  | _, _, _, .nil => by simp; exact (rfl : Value.none = Value.none)
  | _, _, 0, .cons r _ => r
  | _, _, i + 1, .cons _ t => by simpa using valsGetD i t
theorem valsPerm {vs : List V} {us : List Value} (h : Vals vs us) : ∀ perm : List Nat, Vals (perm.map fun i => vs.getD i .non) (perm.map fun i => us.getD i .none)
  | [] => .nil
  | i :: r => .cons (valsGetD i h) (valsPerm h r)
theorem DenL.getD {H : Hp} {ι : Ix} : ∀ {vs : List V} {ds : List D} (i : Nat), DenL K H ι vs ds → Den K H ι (vs.getD i .non) (ds.getD i .non)
  | _, _, _, .nil => by simp; exact .non
  | _, _, 0, .cons r _ => r
  | _, _, i + 1, .cons _ t => by simpa using DenL.getD i t
theorem denPerm {H : Hp} {ι : Ix} {vs : List V} {ds : List D} (h : DenL K H ι vs ds) : ∀ perm : List Nat, DenL K H ι (perm.map fun i => vs.getD i .non) (permD perm ds)
  | [] => .nil
  | i :: r => .cons (h.getD i) (denPerm h r)
theorem pm_callK (c : CalK X.prog X.w X.K X.mg X.base k x ks n perm G) (hr : Rm k X.A) (tk : Takes X W) (ha : PMk' X W kws t) (hl : ∀ ρ S ds S', t ρ S = .ok ds S' → ds.length = ks.length) (hg : Gl X x := by rfl) (hpm : perm.length = n := by rfl) (hdb : (x == ("__debug__" : Str)) = false := by decide)
    (hall : (backToKw pos (keywordEach kws X.env)).all (·.1.isSome) = true := by rfl) (hks : (backToKw pos (keywordEach kws X.env)).filterMap (·.1) = ks := by rfl)
    (hpl : ((backTo pos (starEach [] X.env)).any (·.1) || (backToKw pos (keywordEach kws X.env)).any (·.1.isNone)) = false := by rfl) :
    PE X (.Call (.Name x p) [] kws pos) (tE X.K W (mApp (fun ds => G (permD perm ds)) t)) := by
  obtain ⟨f, fd, ps, hn, F, hm, hk, hb⟩ := c.ex
  refine ⟨fun pins s σ H Q I ⟨ρ, S, ι, h1, h2, h⟩ => ?_⟩
  refine wpAny_Call_Name_kw (ld_glob I hg hm ?_ hdb)
  have h' : tA X.K W t σ H (fun vs H1 => ∃ ρ ι1 a S1, (RepE X.K H1 ι1 σ ρ ∧ RepS X.K H1 ι1 S1 ∧ DenL X.K H1 ι1 vs a ∧ Fi X.K (Den X.K) (fun cls dd H' => W cls dd σ H') H1 ι1 (G (permD perm a) S1) Q) ∧ a.length = ks.length) := by
    refine ⟨ρ, S, ι, h1, h2, ?_⟩
    unfold mApp at h
    cases q : t ρ S with
    | ok ds S1 =>
      rw [q] at h
      exact fun vs H' ι' e r d => ⟨ρ, ι', ds, S1, ⟨h1.ext e, r, d, h.from e⟩, hl _ _ _ _ q⟩
    | exc y S1 => rw [q] at h; exact h
    | bad => rw [q] at h; exact h
  refine PySem.W.callWith_KW0 (h₀ := X.base) I.ok.mod.kin hk hall (thn (ha.run.run pos pins s σ H _ I h') fun ws s2 ⟨vs, H2, I2, rz, ρ1, ι1, a, S1, ⟨e1, s1, d1, f1⟩, hla⟩ => ⟨I2.kIn, ?_⟩) hpl
  rw [hks]
  have hws : ws.length = ks.length := by rw [← rz.length, d1.length, hla]
  exact runGK (args := ⟨[], ks.zip ws⟩) F hr (passAtG tk) I2 (hb s2 ws I2.kIn hws) (valsPerm rz perm) ⟨permD perm a, S1, ι1, by simpa using hpm, s1, denPerm d1 perm, f1⟩
end
end MD

set_option maxHeartbeats 4000000
namespace MD
open PySem PySem.Spec PyProof.Rows L2

/-! ### o.replace('y', 'z'), where a token is out -/
section
variable {X : Cx} {W : WX} {K : PySem.W.Frag} {e o f : Expr} {es : List Expr} {mo mf : EM} {m : EM} {t : AM} {y z : Str} {j k : Nat} {c0 c1 apos pos : Pos}
def replF (y z : Str) : D → Store → Res D := fun d S => match d with
  | .str x => if x.length + (x.length + 1) * z.length ≤ 16777216 then .ok (.str (Txt.replace x y z)) S else .bad
  | _ => .bad
theorem pet_weak {e : Expr} {t t' : TE} (h : PET X e t) (q : ∀ σ H Q, t' σ H Q → t σ H Q) : PET X e t' := fun pins s σ H Q h0 I x => h pins s σ H Q h0 I (q σ H Q x)
theorem pmx_of (h : PE X e (tE X.K W m)) : PET X e (tE X.K W m) := CwR.PET.of h
theorem pmx_rep (ho : PE X o (tE X.K W mo)) (hyz : (y == z) = false := by decide)
    (hst : starEach [.Constant (.str y) j c0, .Constant (.str z) k c1] X.env = [(false, eval (.Constant (.str y) j c0) X.env), (false, eval (.Constant (.str z) k c1) X.env)] := by rfl)
    (hbase : attributeBase o "replace" X.env (eval o X.env) = eval o X.env := by rfl) (hline : (apos.endLine == pos.line) = true := by rfl) :
    PET X (.Call (.Attribute o "replace" apos) [.Constant (.str y) j c0, .Constant (.str z) k c1] [] pos) (tE X.K W (mOp1 (replF y z) mo)) :=
  pet_weak (CwR.pet_replC ho hyz hst hbase hline) fun σ H Q h => by
    obtain ⟨ρ, S, ι, he, hs, h⟩ := tGen.bind (R := Den X.K) (k := fun _ x S1 => replF y z x S1) h
    refine ⟨ρ, S, ι, he, hs, h.mono fun v H1 ⟨ρ1, ι1, x, S1, e1, s1, d1, h1⟩ => ?_⟩
    unfold replF at h1
    split at h1
    · cases d1
      split at h1
      · exact ⟨_, rfl, by assumption, h1.here s1 (.str _)⟩
      · exact h1.elim
    · exact h1.elim
theorem pmxa_nil : PAT X [] (tA X.K W aNil) := fun pos pins s σ H Q _ I ⟨ρ, S, ι, he, hs, h⟩ => pat_nil pos pins s σ H Q (by assumption) I (h.here hs .nil)
theorem pmxa_cons (ha : PET X e (tE X.K W m)) (hr : PAT X es (tA X.K W t)) (hs : starEach (e :: es) X.env = (false, eval e X.env) :: starEach es X.env := by rfl) : PAT X (e :: es) (tA X.K W (aCons m t)) :=
  fun pos pins s σ H Q h0 I h => pat_cons ha hr hs pos pins s σ H Q h0 I (rd_cons h)
/-- 'c' + b, then the rest: a token is out from the first constant on -/
theorem pma_tok {c : Str} {b : Expr} {mb : EM} {c2 p2 : Pos} {j2 : Nat} (hb : PE X b (tE X.K W mb)) (hr : PAT X es (tA X.K W t)) (hs : starEach (.BinOp (.Constant (.str c) j2 c2) .Add b p2 :: es) X.env = (false, eval (.BinOp (.Constant (.str c) j2 c2) .Add b p2) X.env) :: starEach es X.env := by rfl) :
    PA X (.BinOp (.Constant (.str c) j2 c2) .Add b p2 :: es) (tA X.K W (aCons (mOp2 (addF false) (mC (.str c)) mb) t)) := by
  refine ⟨fun pos pins s σ H Q I h => ?_⟩
  have h := rd_cons (K := X.K) (W := W) h
  rw [hs]
  show wpAny _ _ (spliced ((false, eval (.BinOp (.Constant (.str c) j2 c2) .Add b p2) X.env) :: backTo pos (starEach es X.env))) _ _ s
  refine Calls.spliced_cons (wpAny_BinOp (Calls.Constant_str ?_))
  have I1 : Inv X pins σ H { s with toks := s.toks + 1 } := I.tok _
  obtain ⟨ρ, S, ι, he, hS, h⟩ := h
  have hb' : tE X.K W mb σ H (fun w H2 => ∃ ι2 S2 d, RepE X.K H2 ι2 σ ρ ∧ RepS X.K H2 ι2 S2 ∧ Den X.K H2 ι2 w d ∧ Fi X.K (Den X.K) (fun cls dd H' => W cls dd σ H') H2 ι2 (addF false (.str c) d S2) (fun v H1 => tA X.K W t σ H1 fun vs H2 => Q (v :: vs) H2)) := by
    refine ⟨ρ, S, ι, he, hS, ?_⟩
    have h2 : Fi X.K (Den X.K) (fun cls dd H' => W cls dd σ H') H ι ((mb ρ S).bind fun y S2 => addF false (.str c) y S2) (fun v H1 => tA X.K W t σ H1 fun vs H2 => Q (v :: vs) H2) := h
    exact (h2.bind (R := Den X.K)).mono fun w H2 ⟨ι2, d, S2, x2, s2, d2, f2⟩ => ⟨ι2, S2, d, he.ext x2, s2, d2, f2⟩
  refine wpAny_mono (PySem.wpAny_toks (hb.run pins _ σ H _ I1 hb')) (fun u s2 q => ?_) fun _ _ z => z.2
  obtain ⟨hk, w, H2, I2, r2, ι2, S2, d, e2, s2', d2, f2⟩ := q
  have hk' : 1 ≤ s2.toks := Nat.le_trans (Nat.le_add_left 1 s.toks) hk
  refine wpAny_mono (PySem.wpAny_toks (op_addA pins s2 σ H2 (.str c) w (.str c s.toks) u _ I2 ⟨_, rfl⟩ r2 (rd_add (c := false) _ H2 ι2 S2 _ w (.str c) d _ s2' (.str c) d2 f2))) (fun v s3 q => ?_) fun _ _ z => z.2
  obtain ⟨hk3, x, H3, I3, r3, q3⟩ := q
  exact thn (hr pos pins s3 σ H3 _ (Nat.le_trans hk' hk3) I3 q3) fun us s4 ⟨xs, H4, I4, r4, q4⟩ => ⟨x :: xs, H4, I4, .cons r3 r4, q4⟩
end
end MD

set_option maxHeartbeats 4000000
namespace MD
open PySem PySem.Spec PyProof.Rows L2

/-! ### constants of the module; a text many times -/
section
variable {X : Cx} {W : WX} {K : PySem.W.Frag} {x : Str} {pos : Pos}
theorem pm_gint {i : Int} (hm : ∃ t, X.mg x = some (.int i t)) (hg : Gl X x := by rfl) (hdb : (x == ("__debug__" : Str)) = false := by decide) : PE X (.Name x pos) (tE X.K W (mC (.int i))) := by
  obtain ⟨t, hm⟩ := hm
  exact pm_glob (v := .int i) hg hm ⟨t, rfl⟩ (fun _ _ => .int i) hdb
theorem pm_gstr {z : Str} (hm : ∃ t, X.mg x = some (.str z t)) (hg : Gl X x := by rfl) (hdb : (x == ("__debug__" : Str)) = false := by decide) : PE X (.Name x pos) (tE X.K W (mC (.str z))) := by
  obtain ⟨t, hm⟩ := hm
  exact pm_glob (v := .str z) hg hm ⟨t, rfl⟩ (fun _ _ => .str z) hdb
/-- a class, a def as a value -/
theorem pm_gref {a : Addr} (hm : X.mg x = some (.ref a)) (hg : Gl X x := by rfl) (hdb : (x == ("__debug__" : Str)) = false := by decide) : PE X (.Name x pos) (tE X.K W (mC (.ob a))) := pm_glob (v := .ref a) hg hm rfl (fun _ _ => .ob a) hdb
def mulSF : D → D → Store → Res D := fun d e S => match d, e with
  | .str z, .int n => if 2 ≤ n ∧ n ≤ 4096 ∧ z.length ≤ 1000 ∧ 1 ≤ z.length then .ok (.str (Txt.mul z n)) S else .bad
  | _, _ => .bad
theorem mulOk_of {z : Str} {n : Int} (h : 2 ≤ n ∧ n ≤ 4096 ∧ z.length ≤ 1000 ∧ 1 ≤ z.length) : MulOk z n := by
  obtain ⟨h1, h2, h3, h4⟩ := h
  refine ⟨?_, fun _ _ hc => ?_, fun _ _ => ?_⟩
  · simp only [Bool.or_eq_false_iff, decide_eq_false_iff_not]
    constructor <;> omega
  · have h5 : (2 ^ 63 - 1 : Int) / 4096 ≤ (2 ^ 63 - 1) / n := by
      refine Int.le_ediv_of_mul_le (by omega) ?_
      have : (2 ^ 63 - 1 : Int) / 4096 * n ≤ (2 ^ 63 - 1 : Int) / 4096 * 4096 := Int.mul_le_mul_of_nonneg_left h2 (by decide)
      omega
    have h6 : (2 ^ 63 - 1 : Int) / 4096 = 2251799813685247 := by decide
    omega
  · have h5 : z.length * n.toNat ≤ 1000 * 4096 := Nat.mul_le_mul h3 (by omega)
    unfold Builtin.Str.tooLong
    exact decide_eq_false (by have := PySem.sizeLine_eq; omega)
theorem op_mulS : OpR X (binaryOp .Mult) (fun x y H Q => ∃ z n, x = .str z ∧ y = .int n ∧ MulOk z n ∧ Q (.str (Txt.mul z n)) H) := by
  intro pins s σ H x y v u Q I rx ry h
  obtain ⟨z, n, rfl, rfl, ok, q⟩ := h
  obtain ⟨t, rfl⟩ := rx
  obtain ⟨t', rfl⟩ := ry
  exact PySem.SB.mul ok fun t2 k => ⟨.str _, H, I.tok k, ⟨t2, rfl⟩, q⟩
theorem rd_mulS : Op2R K (fun x y H Q => ∃ z n, x = .str z ∧ y = .int n ∧ MulOk z n ∧ Q (.str (Txt.mul z n)) H) mulSF := fun E H ι S v w d e Q s h1 h2 hf => by
  unfold mulSF at hf
  split at hf
  · cases h1; cases h2
    split at hf
    · rename_i hh
      exact ⟨_, _, rfl, rfl, mulOk_of hh, hf.here s (.str _)⟩
    · exact hf.elim
  · exact hf.elim
theorem pm_mulS {a b : Expr} {ma mb : EM} (ha : PE X a (tE X.K W ma)) (hb : PE X b (tE X.K W mb)) : PE X (.BinOp a .Mult b pos) (tE X.K W (mOp2 mulSF ma mb)) := pm_op op_mulS rd_mulS ha hb
end

/-! ### the head's facts: those by name, and one more look -/
open PySem.W in
def obsM (fa : List He.Fa) (fx : Frag → Bool) (fn : List He.DefD) (K : Frag) : He.AlD := ((fa.all fun f => f.ok K) && (fx K && fn.all fun d => d.ok K), fn.map fun d => He.fnW K d.at_)
def SaysM (fa : List He.Fa) (fx : PySem.W.Frag → Bool) (fn : List He.DefD) (K : PySem.W.Frag) : Prop := obsM fa fx fn K = He.valD fn
def obsMG (n : Nat) (fa : List He.Fa) (fx : PySem.W.Frag → Bool) (fn : List He.DefD) (g : Addr → Option Obj) : He.AlD := obsM fa fx fn (He.frG g (cStatics :: He.asD g n))
def hookM (n : Nat) (fa : List He.Fa) (fx : PySem.W.Frag → Bool) (fn : List He.DefD) : PySem.W.Hook where
  α := He.AlD
  obs := fun s => obsMG n fa fx fn s.heap.get?
  val := fun _ => He.valD fn
  says := fun _ h => ∃ K : PySem.W.Frag, K.In h ∧ SaysM fa fx fn K
  of := fun _ _ e => ⟨_, He.frG_in, e⟩
  keeps := fun _ _ _ ⟨K, hK, c⟩ k => ⟨K, PySem.W.Frag.In.keeps hK k, c⟩
theorem obsMG_eq {n : Nat} {fa : List He.Fa} {fx : PySem.W.Frag → Bool} {fn : List He.DefD} {g : Addr → Option Obj} {s : Shared} (h : ∀ a, g a = s.heap.get? a) : obsMG n fa fx fn g = (hookM n fa fx fn).obs s := by
  have e : g = s.heap.get? := funext h
  rw [e] <;> rfl
section
variable {fa : List He.Fa} {fx : PySem.W.Frag → Bool} {fn : List He.DefD} {K : PySem.W.Frag}
theorem SaysM.look (c : SaysM fa fx fn K) : (fa.all fun f => f.ok K) = true ∧ fx K = true ∧ (fn.all fun d => d.ok K) = true := by
  obtain ⟨h1, h2⟩ := He.ba (show ((fa.all fun f => f.ok K) && (fx K && fn.all fun d => d.ok K)) = true from congrArg (fun z : He.AlD => z.1) c)
  obtain ⟨h3, h4⟩ := He.ba h2
  exact ⟨h1, h3, h4⟩
theorem SaysM.fact (c : SaysM fa fx fn K) (i : Nat) {f : He.Fa} (h : fa[i]? = some f := by rfl) : f.ok K = true := List.all_eq_true.mp c.look.1 f (List.mem_of_getElem? h)
theorem SaysM.def_ (c : SaysM fa fx fn K) (i : Nat) {d : He.DefD} (h : fn[i]? = some d := by rfl) : ∃ fd, FunD K d.name d.qual d.params d.body d.scope (d.dvs K) (d.kws K) (He.fAd K d.at_) fd := by
  have e : fn.map (fun d => He.fnW K d.at_) = fn.map He.DefD.val := congrArg (fun z : He.AlD => z.2) c
  have e2 : (fn.map fun d => He.fnW K d.at_)[i]? = (fn.map He.DefD.val)[i]? := by rw [e]
  rw [List.getElem?_map, List.getElem?_map, h] at e2
  exact He.DefD.funD (Option.some.inj e2) (List.all_eq_true.mp c.look.2.2 d (List.mem_of_getElem? h))
end

/-! ### the end: the law's def called with the script -/
/-- no list among the module's own objects -/
def noLists (K : PySem.W.Frag) : Bool := K.all fun p => p.2.cls != .type "list"
theorem noLists_ok {K : PySem.W.Frag} (h : noLists K = true) {a : Addr} {o : Obj} (e : K.lookup a = some o) : o.cls ≠ .type "list" := by
  have m : ∃ b, (b, o) ∈ K := by
    clear h
    induction K with
    | nil => cases e
    | cons p r ih =>
      obtain ⟨b, u⟩ := p
      rw [List.lookup_cons] at e
      split at e
      · cases e; exact ⟨b, List.mem_cons_self⟩
      · obtain ⟨c, m⟩ := ih e
        exact ⟨c, List.mem_cons_of_mem _ m⟩
  obtain ⟨b, m⟩ := m
  have := List.all_eq_true.mp h _ m
  simpa using this
theorem law_callG {P : Program} {w : World} {K : PySem.W.Frag} {mg mb : Str → Option Value} {k : Nat} {fa a : Addr} {fd : FuncData} {x : Str} {G : FM} {s₁ : Shared} {vs : List Value} {ns : List Int} {S' : Store}
    (KX : K.In s₁.heap) (hns : s₁.heap.Ns mainGlobals mg) (hb : s₁.heap.Ns builtinsNs mb) (hbb : ∀ x : Str, x ≠ "__name__" → mb x = bootBuiltins x) (hlim : s₁.heap.NoLimit) (hg : s₁.gens = #[])
    (ha : s₁.heap.get? a = some { cls := .type "list", data := .seq vs.toArray }) (hi : IntsAre vs ns) (hl : ns.length ≤ sizeLine) (hr : Rm k callerA) (nl : noLists K = true)
    (F : ∀ base : Heap, K.In base → base.Ns mainGlobals mg → FnG P w K mg base k fa fd [x] (spM K 1 G)) (hbind : ∀ (s : Shared) (u : Value), BindsTo s fd ⟨[u], []⟩ [(x, u)])
    (hG : G [.lst (ns.map D.int)] [] = .ok (.bl true) S') :
    codeAny (model P w) callerA (.call (.ref fa) ⟨[.ref a], []⟩) (fun r s' => r = .ok (.ret (.bool true)) ∧ OldK s₁.heap s'.heap ∧ s'.os = s₁.os ∧ AllBare s'.gens) s₁ := by
  have rv := vals_ints hi
  have hk : K.lookup a = none := by
    cases q : K.lookup a with
    | none => rfl
    | some o =>
      have z := noLists_ok nl q
      have e := KX a o q
      rw [ha] at e
      cases e
      exact absurd rfl z
  let so : Obj := { cls := .type "list", data := .seq vs.toArray }
  let H : Hp := fun b => if b = a then some (.frz so (.lst (ns.map V.int))) else none
  have Ha : H a = some (.frz so (.lst (ns.map V.int))) := if_pos rfl
  have Hb : ∀ {b : Addr}, b ≠ a → H b = none := fun h => if_neg h
  have hA : ∀ b u, H b = some u → b = a := fun b u e => by
    by_cases hb : b = a
    · exact hb
    · rw [Hb hb] at e; cases e
  have hok : HOk P w H s₁.heap := fun b u e => by
    have hb := hA b u e
    subst hb
    rw [Ha] at e
    cases e
    exact ⟨ha, by rw [List.length_map]; exact hl, vs, _, rv, ha⟩
  have keepB : ∀ {b : Addr} {o : Obj}, s₁.heap.get? b = some o → H b = none → (hidT s₁.heap H).get? b = some o := fun e n => hidT_get e n
  have nsK : ∀ {b : Addr} {m : Str → Option Value}, s₁.heap.Ns b m → (hidT s₁.heap H).Ns b m := fun {b m} ⟨o, es, ep, e, d, r⟩ => ⟨o, es, ep, keepB e (by
    refine Hb fun z => ?_
    subst z
    rw [ha] at e
    cases e
    have d' : Data.seq vs.toArray _ = Data.dict es ep := d
    cases d'), d, r⟩
  have hKb : K.In (hidT s₁.heap H) := fun b o e => keepB (KX b o e) (Hb fun z => by rw [z, hk] at e; cases e)
  have hM : Mod K mg (hidT s₁.heap H) := ⟨hKb, nsK hns, ⟨mb, nsK hb, hbb⟩, let ⟨mc, h1, h2⟩ := hlim; ⟨mc, nsK h1, h2⟩⟩
  have e0 : Env0 P w K mg (hidT s₁.heap H) callerA [] s₁ H := ⟨rfl, hM, fun b o e => of_hidT e, Nat.le_of_eq (hidT_size _ _), trivial, fun b hb => absurd (show b ∈ ([] : List Addr) from hb) (by simp), hok, .of_eq hg⟩
  have hs : RepS K H ⟨[], []⟩ [] := ⟨rfl, fun _ _ _ h => by simp at h, fun _ _ _ h => by simp at h, fun _ _ h => by simp at h, fun _ h => by simp at h⟩
  have dInts : ∀ l : List Int, DenL K H ⟨[], []⟩ (l.map V.int) (l.map D.int) := fun l => by
    induction l with
    | nil => exact .nil
    | cons i r ih => exact .cons (.int i) ih
  have hd : DenL K H ⟨[], []⟩ [.ref a] [.lst (ns.map D.int)] := .cons (.lst ⟨.inr ⟨so, Ha⟩, fun m => by rcases m with m | m <;> simp at m⟩ (dInts ns)) .nil
  have hq : spM K 1 G [.ref a] H (fun v _ => v = .bl true) (fun _ _ _ => False) := ⟨_, _, _, rfl, hs, hd, by
    rw [hG]
    exact fun v H' ι' _ _ d => by cases d; rfl⟩
  refine codeAny_mono ((F _ hKb (nsK hns)).run callerA [] s₁ H ⟨[.ref a], []⟩ [.ref a] [.ref a] _ _ hr e0 (hbind s₁ (.ref a)) (.cons rfl .nil) hq) fun r s' h => ?_
  cases r with
  | error e =>
    obtain ⟨_, _, _, _, _, _, _, _, _, _, _, _, z⟩ := h
    exact z.elim
  | ok fl =>
    cases fl with
    | next | brk | cont => exact False.elim h
    | ret u =>
      obtain ⟨v, H', os, bare, un, hok', r', q⟩ := h
      have q' : v = .bl true := q
      subst q'
      obtain rfl : u = Value.bool true := r'
      refine ⟨rfl, OldK.of_keep fun b o e => ?_, os, bare⟩
      by_cases hb : b = a
      · subst hb
        have z2 := un.frzs b so _ Ha
        obtain ⟨e2, _⟩ := hok' b _ z2
        rw [ha] at e
        cases e
        exact e2
      · exact un.keep b o e (Hb hb) (by intro z; exact absurd (show b ∈ ([] : List Addr) from z) (by simp)) (by simp)
theorem walk_G {l : PySem.W.OpenLaw} {n k : Nat} {q : Program} {loose : List Str} {XP : (Str → Option Value) → Heap → Prop} {YP : World → Heap → Prop} {d : DefRec} {x : Str}
    (hn : l.most = some n) (hn2 : n ≤ sizeLine) (hdf : d.params.defaults = []) (hr : Room k callerA)
    (F : ∀ (w : World) (mg : Str → Option Value) (fa : Addr) (h : Heap), YP w h → h.Ns mainGlobals mg → mg d.name = some (.ref fa) →
      ∃ (K : PySem.W.Frag) (fd : FuncData) (G : FM), K.In h ∧ noLists K = true ∧ (∀ (s : Shared) (u : Value), BindsTo s fd ⟨[u], []⟩ [(x, u)]) ∧
        (∀ ns : List Int, ns.length ≤ n → (∀ z ∈ ns, Builtin.Int.intBits z ≤ 1048576) → ∃ S', G [.lst (ns.map D.int)] [] = .ok (.bl true) S') ∧
        ∀ base : Heap, K.In base → base.Ns mainGlobals mg → FnG l.prog w K mg base k fa fd [x] (spM K 1 G)) :
    PySem.W.WalkO q loose XP YP l.row.toRowW d [] (fun f vs => PySem.call f vs) := by
  refine Att.attach_callB hn hdf fun w s₀ s₁ mg mb fa o pm cd doc a vs ns G Y ho hd hcd hmg hobj hints hlen hbits hg => ?_
  obtain ⟨K, fd, Gf, KX, nl, hb, hG, hF⟩ := F w mg fa _ Y G.T.g hmg
  obtain ⟨S', hS⟩ := hG ns hlen hbits
  exact law_callG KX G.T.g G.T.b G.T.builtins G.T.nolimit hg hobj hints (Nat.le_trans hlen hn2) ⟨hr, rfl⟩ nl hF hb hS
end MD

set_option maxHeartbeats 4000000
namespace MD
open PySem PySem.Spec PyProof.Rows L2

/-! ### the names of the built-ins -/
theorem Cal.mono {P : Program} {w : World} {K : PySem.W.Frag} {mg : Str → Option Value} {base : Heap} {j k n : Nat} {x : Str} {G : FM} (c : Cal P w K mg base j x n G) (h : j ≤ k) : Cal P w K mg base k x n G := by
  obtain ⟨f, fd, ps, h1, h2, h3⟩ := c.ex
  exact ⟨f, fd, ps, h1, h2.mono h, h3⟩
theorem CalK.mono {P : Program} {w : World} {K : PySem.W.Frag} {mg : Str → Option Value} {base : Heap} {j k n : Nat} {x : Str} {ks : List Str} {perm : List Nat} {G : FM} (c : CalK P w K mg base j x ks n perm G) (h : j ≤ k) : CalK P w K mg base k x ks n perm G := by
  obtain ⟨f, fd, ps, h1, h2, h3⟩ := c.ex
  exact ⟨f, fd, ps, h1, h2.mono h, h3⟩
section
variable {X : Cx} {W : WX} {K : PySem.W.Frag} {k : Nat} {p pos apos : Pos} {e o : Expr} {es : List Expr} {t : AM} {mo : EM}
theorem pm_len (hm : X.mg "len" = none) (ha : PA X [e] (tA X.K W t)) (gl : Gl X "len" := by rfl) (he : starEach [e] X.env = (false, eval e X.env) :: starEach [] X.env := by rfl) (hpl : (backTo pos (starEach [] X.env)).any (·.1) = false := by rfl) : PE X (.Call (.Name "len" p) [e] [] pos) (tE X.K W (mApp (one lenF) t)) :=
  pm_bi (call_len_seq.or call_len_str) ap_len hm PyProof.Rows.Boot.«len» ha gl (by decide) (by decide) he hpl
theorem pm_abs (hm : X.mg "abs" = none) (ha : PA X [e] (tA X.K W t)) (gl : Gl X "abs" := by rfl) (he : starEach [e] X.env = (false, eval e X.env) :: starEach [] X.env := by rfl) (hpl : (backTo pos (starEach [] X.env)).any (·.1) = false := by rfl) : PE X (.Call (.Name "abs" p) [e] [] pos) (tE X.K W (mApp (one absF) t)) :=
  pm_bi call_abs ap_abs hm PyProof.Rows.Boot.«abs» ha gl (by decide) (by decide) he hpl
theorem pm_int_ (hm : X.mg "int" = none) (ha : PA X [e] (tA X.K W t)) (gl : Gl X "int" := by rfl) (he : starEach [e] X.env = (false, eval e X.env) :: starEach [] X.env := by rfl) (hpl : (backTo pos (starEach [] X.env)).any (·.1) = false := by rfl) : PE X (.Call (.Name "int" p) [e] [] pos) (tE X.K W (mApp (one intF) t)) :=
  pm_ty (call_int1.or call_int_str) ap_int hm PyProof.Rows.Boot.«int» ha gl (by decide) (by decide) he hpl
theorem pm_str_ (hm : X.mg "str" = none) (ha : PA X [e] (tA X.K W t)) (gl : Gl X "str" := by rfl) (he : starEach [e] X.env = (false, eval e X.env) :: starEach [] X.env := by rfl) (hpl : (backTo pos (starEach [] X.env)).any (·.1) = false := by rfl) : PE X (.Call (.Name "str" p) [e] [] pos) (tE X.K W (mApp (one strF) t)) :=
  pm_ty (call_str_int.or SkE.call_str_str) ap_str hm PyProof.Rows.Boot.«str» ha gl (by decide) (by decide) he hpl
theorem pm_list (c : Bool) (hm : X.mg "list" = none) (ha : PA X [e] (tA X.K W t)) (gl : Gl X "list" := by rfl) (he : starEach [e] X.env = (false, eval e X.env) :: starEach [] X.env := by rfl) (hpl : (backTo pos (starEach [] X.env)).any (·.1) = false := by rfl) : PE X (.Call (.Name "list" p) [e] [] pos) (tE X.K W (mApp (one (listF c)) t)) :=
  pm_ty call_list_of (ap_list c) hm PyProof.Rows.Boot.«list» ha gl (by decide) (by decide) he hpl
theorem pm_tuple (hm : X.mg "tuple" = none) (ha : PA X [e] (tA X.K W t)) (gl : Gl X "tuple" := by rfl) (he : starEach [e] X.env = (false, eval e X.env) :: starEach [] X.env := by rfl) (hpl : (backTo pos (starEach [] X.env)).any (·.1) = false := by rfl) : PE X (.Call (.Name "tuple" p) [e] [] pos) (tE X.K W (mApp (one tupleF) t)) :=
  pm_ty call_tuple_of ap_tuple hm PyProof.Rows.Boot.«tuple» ha gl (by decide) (by decide) he hpl
theorem pm_all (hc : X.calm = true) (hm : X.mg "all" = none) (ha : PA X [e] (tA X.K W t)) (gl : Gl X "all" := by rfl) (he : starEach [e] X.env = (false, eval e X.env) :: starEach [] X.env := by rfl) (hpl : (backTo pos (starEach [] X.env)).any (·.1) = false := by rfl) : PE X (.Call (.Name "all" p) [e] [] pos) (tE X.K W (mApp (one allF) t)) :=
  pm_bi (cr_all hc) ap_all hm PyProof.Rows.Boot.«all» ha gl (by decide) (by decide) he hpl
theorem pm_any (hc : X.calm = true) (hm : X.mg "any" = none) (ha : PA X [e] (tA X.K W t)) (gl : Gl X "any" := by rfl) (he : starEach [e] X.env = (false, eval e X.env) :: starEach [] X.env := by rfl) (hpl : (backTo pos (starEach [] X.env)).any (·.1) = false := by rfl) : PE X (.Call (.Name "any" p) [e] [] pos) (tE X.K W (mApp (one anyF) t)) :=
  pm_bi (cr_any hc) ap_any hm PyProof.Rows.Boot.«any» ha gl (by decide) (by decide) he hpl
theorem pm_sum (hc : X.calm = true) (hm : X.mg "sum" = none) (ha : PA X [e] (tA X.K W t)) (gl : Gl X "sum" := by rfl) (he : starEach [e] X.env = (false, eval e X.env) :: starEach [] X.env := by rfl) (hpl : (backTo pos (starEach [] X.env)).any (·.1) = false := by rfl) : PE X (.Call (.Name "sum" p) [e] [] pos) (tE X.K W (mApp (one sumF) t)) :=
  pm_bi (cr_sum hc) ap_sum hm PyProof.Rows.Boot.«sum» ha gl (by decide) (by decide) he hpl
theorem pm_max (hc : X.calm = true) (hm : X.mg "max" = none) (ha : PA X [e] (tA X.K W t)) (gl : Gl X "max" := by rfl) (he : starEach [e] X.env = (false, eval e X.env) :: starEach [] X.env := by rfl) (hpl : (backTo pos (starEach [] X.env)).any (·.1) = false := by rfl) : PE X (.Call (.Name "max" p) [e] [] pos) (tE X.K W (mApp (one maxF) t)) :=
  pm_bi (cr_max hc) ap_max hm PyProof.Rows.Boot.«max» ha gl (by decide) (by decide) he hpl
theorem pm_min (hc : X.calm = true) (hm : X.mg "min" = none) (ha : PA X [e] (tA X.K W t)) (gl : Gl X "min" := by rfl) (he : starEach [e] X.env = (false, eval e X.env) :: starEach [] X.env := by rfl) (hpl : (backTo pos (starEach [] X.env)).any (·.1) = false := by rfl) : PE X (.Call (.Name "min" p) [e] [] pos) (tE X.K W (mApp (one minF) t)) :=
  pm_bi (cr_min hc) ap_min hm PyProof.Rows.Boot.«min» ha gl (by decide) (by decide) he hpl
theorem pm_repr (hr : Rm k X.A) (hm : X.mg "repr" = none) (ha : PA X [e] (tA X.K W t)) (gl : Gl X "repr" := by rfl) (he : starEach [e] X.env = (false, eval e X.env) :: starEach [] X.env := by rfl) (hpl : (backTo pos (starEach [] X.env)).any (·.1) = false := by rfl) : PE X (.Call (.Name "repr" p) [e] [] pos) (tE X.K W (mApp (one repF) t)) :=
  pm_bi (call_repr hr.grd (by have := hr.room.un; omega)) ap_repr hm PyProof.Rows.Boot.«repr» ha gl (by decide) (by decide) he hpl
theorem pm_split (c : Bool) (ho : PE X o (tE X.K W mo)) (ha : PA X (e :: es) (tA X.K W t)) (hbase : attributeBase o "split" X.env (eval o X.env) = eval o X.env := by rfl)
    (hfew : ((backTo pos (starEach (e :: es) X.env)).all (fun x => !x.1) && (backToKw pos (keywordEach [] X.env)).all (fun x => x.1.isSome)
      && decide ((e :: es).length + ([] : List Keyword).length + (if ([] : List Keyword).isEmpty then 0 else 1) < 30)) = true := by rfl)
    (hline : (apos.endLine == pos.line) = true := by rfl) (hs : starEach (e :: es) X.env = (false, eval e X.env) :: starEach es X.env := by rfl) (hplain : (backTo pos (starEach es X.env)).any (·.1) = false := by rfl) :
    PE X (.Call (.Attribute o "split" apos) (e :: es) [] pos) (tE X.K W (mMtS (splitF c) mo t)) := pm_mts PySem.F.slot_str_split PySem.F.type_str_split mt_split (mr_split c) ho ha hbase hfew hline hs hplain
theorem pm_join (ho : PE X o (tE X.K W mo)) (ha : PA X (e :: es) (tA X.K W t)) (hbase : attributeBase o "join" X.env (eval o X.env) = eval o X.env := by rfl)
    (hfew : ((backTo pos (starEach (e :: es) X.env)).all (fun x => !x.1) && (backToKw pos (keywordEach [] X.env)).all (fun x => x.1.isSome)
      && decide ((e :: es).length + ([] : List Keyword).length + (if ([] : List Keyword).isEmpty then 0 else 1) < 30)) = true := by rfl)
    (hline : (apos.endLine == pos.line) = true := by rfl) (hs : starEach (e :: es) X.env = (false, eval e X.env) :: starEach es X.env := by rfl) (hplain : (backTo pos (starEach es X.env)).any (·.1) = false := by rfl) :
    PE X (.Call (.Attribute o "join" apos) (e :: es) [] pos) (tE X.K W (mMtS joinF mo t)) := pm_mts PySem.F.slot_str_join PySem.F.type_str_join mt_join mr_join ho ha hbase hfew hline hs hplain
theorem pm_rpref (ho : PE X o (tE X.K W mo)) (ha : PA X (e :: es) (tA X.K W t)) (hbase : attributeBase o "removeprefix" X.env (eval o X.env) = eval o X.env := by rfl)
    (hfew : ((backTo pos (starEach (e :: es) X.env)).all (fun x => !x.1) && (backToKw pos (keywordEach [] X.env)).all (fun x => x.1.isSome)
      && decide ((e :: es).length + ([] : List Keyword).length + (if ([] : List Keyword).isEmpty then 0 else 1) < 30)) = true := by rfl)
    (hline : (apos.endLine == pos.line) = true := by rfl) (hs : starEach (e :: es) X.env = (false, eval e X.env) :: starEach es X.env := by rfl) (hplain : (backTo pos (starEach es X.env)).any (·.1) = false := by rfl) :
    PE X (.Call (.Attribute o "removeprefix" apos) (e :: es) [] pos) (tE X.K W (mMtS rprefF mo t)) := pm_mts PySem.F.slot_str_removeprefix PySem.F.type_str_removeprefix mt_removeprefix mr_rpref ho ha hbase hfew hline hs hplain
theorem pm_part (ho : PE X o (tE X.K W mo)) (ha : PA X (e :: es) (tA X.K W t)) (hbase : attributeBase o "partition" X.env (eval o X.env) = eval o X.env := by rfl)
    (hfew : ((backTo pos (starEach (e :: es) X.env)).all (fun x => !x.1) && (backToKw pos (keywordEach [] X.env)).all (fun x => x.1.isSome)
      && decide ((e :: es).length + ([] : List Keyword).length + (if ([] : List Keyword).isEmpty then 0 else 1) < 30)) = true := by rfl)
    (hline : (apos.endLine == pos.line) = true := by rfl) (hs : starEach (e :: es) X.env = (false, eval e X.env) :: starEach es X.env := by rfl) (hplain : (backTo pos (starEach es X.env)).any (·.1) = false := by rfl) :
    PE X (.Call (.Attribute o "partition" apos) (e :: es) [] pos) (tE X.K W (mMtS partF mo t)) := pm_mts PySem.F.slot_str_partition PySem.F.type_str_partition mt_partition mr_part ho ha hbase hfew hline hs hplain
theorem pm_append (ho : PE X o (tE X.K W mo)) (ha : PA X (e :: es) (tA X.K W t)) (hbase : attributeBase o "append" X.env (eval o X.env) = eval o X.env := by rfl)
    (hfew : ((backTo pos (starEach (e :: es) X.env)).all (fun x => !x.1) && (backToKw pos (keywordEach [] X.env)).all (fun x => x.1.isSome)
      && decide ((e :: es).length + ([] : List Keyword).length + (if ([] : List Keyword).isEmpty then 0 else 1) < 30)) = true := by rfl)
    (hline : (apos.endLine == pos.line) = true := by rfl) (hs : starEach (e :: es) X.env = (false, eval e X.env) :: starEach es X.env := by rfl) (hplain : (backTo pos (starEach es X.env)).any (·.1) = false := by rfl) :
    PE X (.Call (.Attribute o "append" apos) (e :: es) [] pos) (tE X.K W (mMtL appF mo t)) := pm_mtl PySem.F.slot_list_append PySem.F.type_list_append mt_append mr_app ho ha hbase hfew hline hs hplain
theorem pm_max2 {e2 : Expr} (hc : X.calm = true) (hm : X.mg "max" = none) (ha : PA X [e, e2] (tA X.K W t)) (gl : Gl X "max" := by rfl) (he : starEach [e, e2] X.env = (false, eval e X.env) :: starEach [e2] X.env := by rfl) (hpl : (backTo pos (starEach [e2] X.env)).any (·.1) = false := by rfl) : PE X (.Call (.Name "max" p) [e, e2] [] pos) (tE X.K W (mApp (two max2F) t)) :=
  pm_bi (call_max2 hc) ap_max2 hm PyProof.Rows.Boot.«max» ha gl (by decide) (by decide) he hpl
theorem pm_min2 {e2 : Expr} (hc : X.calm = true) (hm : X.mg "min" = none) (ha : PA X [e, e2] (tA X.K W t)) (gl : Gl X "min" := by rfl) (he : starEach [e, e2] X.env = (false, eval e X.env) :: starEach [e2] X.env := by rfl) (hpl : (backTo pos (starEach [e2] X.env)).any (·.1) = false := by rfl) : PE X (.Call (.Name "min" p) [e, e2] [] pos) (tE X.K W (mApp (two min2F) t)) :=
  pm_bi (call_min2 hc) ap_min2 hm PyProof.Rows.Boot.«min» ha gl (by decide) (by decide) he hpl
/-- isinstance(a, T), T a built-in type; isinstance(a, C), C an own class -/
theorem pm_isT {T : String} {x : Str} {kb : List (String × Bool)} {cb eb : List (Addr × Bool)} {ma : EM} {p2 : Pos} (O : IsOk X.K (.type T) kb cb eb) (hx : X.mg x = none) (hm : X.mg "isinstance" = none) (hv : bootBuiltins x = some (.type T)) (ha : PE X e (tE X.K W ma)) (gx : Gl X x := by rfl) (gl : Gl X "isinstance" := by rfl)
    (hn : x ≠ "__name__" := by decide) (hdb : (x == ("__debug__" : Str)) = false := by decide)
    (h1 : starEach [e, .Name x p2] X.env = (false, eval e X.env) :: starEach [.Name x p2] X.env := by rfl) (h2 : starEach [.Name x p2] X.env = (false, eval (.Name x p2) X.env) :: starEach [] X.env := by rfl) (hpl : (backTo pos (starEach [.Name x p2] X.env)).any (·.1) = false := by rfl) :
    PE X (.Call (.Name "isinstance" p) [e, .Name x p2] [] pos) (tE X.K W (mOp1 (isF kb cb eb) ma)) :=
  pm_is O (.ty T) (pe_bltn (v := .ty T) gx hx hv rfl hn hdb) ha hm gl PyProof.Rows.Boot.«isinstance» h1 h2 hpl
theorem pm_isC {C : Addr} {x : Str} {kb : List (String × Bool)} {cb eb : List (Addr × Bool)} {ma : EM} {p2 : Pos} (O : IsOk X.K (.ref C) kb cb eb) (hx : X.mg x = some (.ref C)) (hm : X.mg "isinstance" = none) (ha : PE X e (tE X.K W ma)) (gx : Gl X x := by rfl) (gl : Gl X "isinstance" := by rfl)
    (hdb : (x == ("__debug__" : Str)) = false := by decide)
    (h1 : starEach [e, .Name x p2] X.env = (false, eval e X.env) :: starEach [.Name x p2] X.env := by rfl) (h2 : starEach [.Name x p2] X.env = (false, eval (.Name x p2) X.env) :: starEach [] X.env := by rfl) (hpl : (backTo pos (starEach [.Name x p2] X.env)).any (·.1) = false := by rfl) :
    PE X (.Call (.Name "isinstance" p) [e, .Name x p2] [] pos) (tE X.K W (mOp1 (isF kb cb eb) ma)) :=
  pm_is O (.own C) (pe_glob (v := .ref C) gx hx rfl hdb) ha hm gl PyProof.Rows.Boot.«isinstance» h1 h2 hpl
end
end MD

set_option maxHeartbeats 4000000
namespace MD
open PySem PySem.Spec PyProof.Rows L2

/-! ### looks at the module's own part, by computing -/
def insKB (K : PySem.W.Frag) (C : Addr) : Bool :=
  PySem.W.plainGet K C Str.empty && PySem.W.hasDictIn K C && PySem.W.plainOver K C && decide (PySem.W.findIn K (.ref C) "__setattr__" = some (some (.builtin "object.__setattr__"))) &&
  decide (PySem.W.findIn K (.ref C) "__class__" = some (some (.builtin "object.__class__"))) && decide (PySem.W.specialIn K (.builtin "object.__class__") "__get__" = some (some (.builtin "getset_descriptor.__get__"))) &&
  decide (PySem.W.takesIn K (.builtin "object.__class__") = some true) && decide (PySem.W.mroIn K C (.type "object") = some true)
theorem insKB_ok {K : PySem.W.Frag} {C : Addr} (h : insKB K C = true) : InsK K C := by
  unfold insKB at h
  simp only [Bool.and_eq_true, decide_eq_true_eq] at h
  obtain ⟨⟨⟨⟨⟨⟨⟨h1, h2⟩, h3⟩, h4⟩, h5⟩, h6⟩, h7⟩, h8⟩ := h
  exact ⟨⟨h1, h2, h3, h4⟩, h5, h6, h7, h8⟩
def excCB (K : PySem.W.Frag) (C : Addr) : Bool :=
  decide (PySem.W.findIn K (.ref C) "__getattribute__" = some (some (.builtin "BaseException.__getattribute__"))) && decide (PySem.W.findIn K (.ref C) "__getattr__" = some none) &&
  decide (PySem.W.subIn K (.ref C) (.type "BaseException") = some true) && PySem.W.hasDictIn K C &&
  decide (PySem.W.findIn K (.ref C) "__class__" = some (some (.builtin "object.__class__"))) && decide (PySem.W.specialIn K (.builtin "object.__class__") "__get__" = some (some (.builtin "getset_descriptor.__get__"))) &&
  decide (PySem.W.takesIn K (.builtin "object.__class__") = some true) && decide (PySem.W.mroIn K C (.type "object") = some true)
theorem excCB_ok {K : PySem.W.Frag} {C : Addr} (h : excCB K C = true) : ExcC K C := by
  unfold excCB at h
  simp only [Bool.and_eq_true, decide_eq_true_eq] at h
  obtain ⟨⟨⟨⟨⟨⟨⟨h1, h2⟩, h3⟩, h4⟩, h5⟩, h6⟩, h7⟩, h8⟩ := h
  exact ⟨h1, h2, h3, h4, h5, h6, h7, h8⟩
theorem ExcC.xf {K : PySem.W.Frag} {C : Addr} (h : ExcC K C) : XfC K C := ⟨h.hg, h.hk, h.hs, h.hd⟩
theorem lookup_mem {α β : Type} [BEq α] [LawfulBEq α] {a : α} {b : β} : ∀ {l : List (α × β)}, l.lookup a = some b → (a, b) ∈ l
  | [], h => by cases h
  | (c, d) :: r, h => by
    rw [List.lookup_cons] at h
    split at h
    · rename_i e
      cases h
      rw [eq_of_beq e]
      exact List.mem_cons_self
    · exact List.mem_cons_of_mem _ (lookup_mem h)
def isOkB (K : PySem.W.Frag) (u : Value) (kb : List (String × Bool)) (cb eb : List (Addr × Bool)) : Bool :=
  kb.all (fun p => decide (PySem.W.kitOne K (.type p.1) u = some p.2)) && cb.all (fun p => decide (PySem.W.kitOne K (.ref p.1) u = some p.2)) && eb.all (fun p => decide (PySem.W.kitOne K (.ref p.1) u = some p.2))
theorem isOk_of {K : PySem.W.Frag} {u : Value} {kb : List (String × Bool)} {cb eb : List (Addr × Bool)} (h : isOkB K u kb cb eb = true) (hc : ∀ C b, cb.lookup C = some b → InsK K C) (he : ∀ C b, eb.lookup C = some b → ExcC K C) : IsOk K u kb cb eb := by
  unfold isOkB at h
  rw [Bool.and_eq_true, Bool.and_eq_true] at h
  obtain ⟨⟨h1, h2⟩, h3⟩ := h
  refine ⟨fun T b e => ?_, fun C b e => ⟨?_, hc C b e⟩, fun C b e => ⟨?_, he C b e⟩⟩
  · exact of_decide_eq_true (List.all_eq_true.mp h1 _ (lookup_mem e))
  · exact of_decide_eq_true (List.all_eq_true.mp h2 _ (lookup_mem e))
  · exact of_decide_eq_true (List.all_eq_true.mp h3 _ (lookup_mem e))
/-- which errors a clause takes -/
def ExmOk (K : PySem.W.Frag) (c : Value) (cs : List (Addr × Bool)) : Prop := ∀ C b, cs.lookup C = some b → PySem.W.exmOne K (.ref C) c = some b
def exmB (K : PySem.W.Frag) (c : Value) (cs : List (Addr × Bool)) : Bool := cs.all fun p => decide (PySem.W.exmOne K (.ref p.1) c = some p.2)
theorem exm_of {K : PySem.W.Frag} {c : Value} {cs : List (Addr × Bool)} (h : exmB K c cs = true) : ExmOk K c cs := fun _ _ e => of_decide_eq_true (List.all_eq_true.mp h _ (lookup_mem e))
/-- an error class without an __init__ of its own -/
structure ExcMk (K : PySem.W.Frag) (C : Addr) : Prop where
  q : PySem.W.excIn K C He.veBase "ValueError.__new__" = true
  kC : PySem.W.keepIn K (.ref C) = true
  sb : PySem.W.subIn K (.ref C) (.type "BaseException") = some true
  ty : PySem.W.typeIn K (.ref C) = some (.type "type")
def excMkB (K : PySem.W.Frag) (C : Addr) : Bool := PySem.W.excIn K C He.veBase "ValueError.__new__" && PySem.W.keepIn K (.ref C) && decide (PySem.W.subIn K (.ref C) (.type "BaseException") = some true) && decide (PySem.W.typeIn K (.ref C) = some (.type "type"))
theorem excMkB_ok {K : PySem.W.Frag} {C : Addr} (h : excMkB K C = true) : ExcMk K C := by
  unfold excMkB at h
  simp only [Bool.and_eq_true, decide_eq_true_eq] at h
  exact ⟨h.1.1.1, h.1.1.2, h.1.2, h.2⟩
/-- the class with the __init__ -/
structure IniC (K : PySem.W.Frag) (C CB fI : Addr) (f : Str) : Prop where
  T : OexC K C
  iC : PySem.W.findIn K (.ref C) "__init__" = some (some (.ref fI))
  tI : PySem.W.typeIn K (.ref fI) = some (.type "function")
  no : NoAttr K C f
  b : BaseI K CB
def oexB (K : PySem.W.Frag) (C : Addr) : Bool := match K.lookup C with
  | some ⟨.type "type", _, .cls cd, sl⟩ => (match cd.mro, sl.toList with
    | .ref C1 :: bm, [_, _, _, _, some (.builtin n), _] => C1 == C && n == "ValueError.__new__" && !cd.hasDel && cd.hasDict && PySem.HandSPX.refsVE bm
    | _, _ => false)
  | _ => false
def iniCB (K : PySem.W.Frag) (C CB fI : Addr) (f : Str) : Bool :=
  oexB K C && decide (PySem.W.findIn K (.ref C) "__setattr__" = some (some (.builtin "object.__setattr__"))) && decide (PySem.W.subIn K (.ref C) (.type "BaseException") = some true) && decide (PySem.W.typeIn K (.ref C) = some (.type "type")) && PySem.W.keepIn K (.ref C) &&
  decide (PySem.W.findIn K (.ref C) "__init__" = some (some (.ref fI))) && decide (PySem.W.typeIn K (.ref fI) = some (.type "function")) && decide (PySem.W.findIn K (.ref C) f = some none) &&
  decide (PySem.W.specialIn K (.ref CB) "__getattribute__" = some (some (.builtin "type.__getattribute__"))) && PySem.W.readsIn K CB (.type "type") && (match PySem.W.findCls K (.ref CB) (.type "type") "__init__" with
    | some (.val v) => decide (v = .builtin "ValueError.__init__")
    | _ => false)
theorem iniCB_ok {K : PySem.W.Frag} {C CB fI : Addr} {f : Str} (h : iniCB K C CB fI f = true) : IniC K C CB fI f := by
  unfold iniCB at h
  simp only [Bool.and_eq_true, decide_eq_true_eq] at h
  obtain ⟨⟨⟨⟨⟨⟨⟨⟨⟨⟨h1, h2⟩, h3⟩, h4⟩, h5⟩, h6⟩, h7⟩, h8⟩, h9⟩, h10⟩, h11⟩ := h
  refine ⟨⟨?_, h2, h3, h4, h5⟩, h6, h7, h8, h9, h10, ?_⟩
  · unfold oexB at h1
    split at h1
    · rename_i dd cd sl ho
      split at h1
      · rename_i C1 bm k0 k1 k2 k3 n k5 hm hs
        simp only [Bool.and_eq_true, beq_iff_eq, Bool.not_eq_true'] at h1
        obtain ⟨⟨⟨⟨rfl, rfl⟩, hdel⟩, hdi⟩, ht⟩ := h1
        obtain ⟨nm, bs, mro, ns, qn, hd, sn, sub, ab, col, del⟩ := cd
        dsimp only at hm hdel hdi
        subst hm hdel hdi
        have hsl : sl = #[k0, k1, k2, k3, some (.builtin "ValueError.__new__"), k5] := by
          obtain ⟨l⟩ := sl
          simp only at hs
          rw [hs]
        subst hsl
        exact ⟨nm, qn, ns, bs, bm, sn, sub, ab, col, dd, k0, k1, k2, k3, k5, ho, ht⟩
      · cases h1
    · cases h1
  · split at h11
    · rename_i v e
      rw [of_decide_eq_true h11] at e
      exact e
    · cases h11
section
variable {X : Cx} {W : WX} {B : Base} {pos p p2 p3 : Pos} {x m : Str} {j : Nat} {C CB fI : Addr} {k : Nat} {e : Expr} {me : EM}
theorem pm_raiseO (hc : X.calm = true) (tk : Takes X W) (h : ExcMk X.K C) (gC : X.mg x = some (.ref C)) (hg : Gl X x := by rfl) (hdb : (x == ("__debug__" : Str)) = false := by decide) :
    PS X (.Raise (some (.Call (.Name x p) [.Constant (.str m) j p2] [] pos)) none p3) (tS X.K W B (sRaise C)) :=
  pm_raise hc tk (pmk_own PySem.F.excBase_ValueError h.q gC h.kC (raises_own h.sb h.ty) hg hdb)
/-- what raising it leans on: its __init__ as a def -/
structure IniF (P : Program) (w : World) (K : PySem.W.Frag) (mg : Str → Option Value) (base : Heap) (k : Nat) (C CB : Addr) (f : Str) : Prop where
  ex : ∃ (fI : Addr) (fd : FuncData), IniC K C CB fI f ∧ FnOk P w K mg base (L2.CX P w) k fI fd ["self", f] (spInit C f) ∧ Binds K fd ["self", f] []
theorem pm_raiseI {f : Str} (hc : X.calm = true) (tk : Takes X W) (h : IniF X.prog X.w X.K X.mg X.base k C CB f) (hr : Rm (k + 1) X.A) (gC : X.mg x = some (.ref C)) (he : PE X e (tE X.K W me)) (hg : Gl X x := by rfl) (hdb : (x == ("__debug__" : Str)) = false := by decide)
    (hst : starEach [e] X.env = (false, eval e X.env) :: starEach [] X.env := by rfl) (hpl : (backTo pos (starEach [] X.env)).any (·.1) = false := by rfl) :
    PS X (.Raise (some (.Call (.Name x p) [e] [] pos)) none p3) (tS X.K W B (sRaiseF C f me)) := by
  obtain ⟨fI, fd, hI, F, hb⟩ := h.ex
  exact pm_raiseF (a := e) hc tk (pmk_init hI.T hI.iC hI.tI F hr.room hb gC he (fun _ _ _ _ q z => tGen_mono q z) hg hdb hst hpl)
end
end MD

set_option maxHeartbeats 4000000
namespace MD
open PySem PySem.Spec PyProof.Rows L2
theorem aNil_len : ∀ (ρ : MD.Env) (S : Store) (ds : List D) (S' : Store), aNil ρ S = .ok ds S' → ds.length = 0 := fun _ _ _ _ h => by cases h; rfl
theorem aCons_len {m : EM} {t : AM} {n : Nat} (h : ∀ (ρ : MD.Env) (S : Store) (ds : List D) (S' : Store), t ρ S = .ok ds S' → ds.length = n) : ∀ (ρ : MD.Env) (S : Store) (ds : List D) (S' : Store), aCons m t ρ S = .ok ds S' → ds.length = n + 1 := fun ρ S ds S' e => by
  unfold aCons at e
  cases q : m ρ S with
  | ok x S1 =>
    simp only [q, Res.bind] at e
    cases z : t ρ S1 with
    | ok xs S2 =>
      simp only [z] at e
      cases e
      simp [h ρ S1 xs _ z]
    | exc y S2 => simp only [z] at e; cases e
    | bad => simp only [z] at e; cases e
  | exc y S1 => simp only [q, Res.bind] at e; cases e
  | bad => simp only [q, Res.bind] at e; cases e
section
variable {X : Cx} {W : WX} {B : Base} {tg iter elt : Expr} {it : IM} {g : GM} {sl : List Nat} {tt : BM} {te : EM} {scope : Scope} {own : List (Str × Nat)} {pos spos py : Pos} {ifs : List Expr} {y : Str}
/-- name = [..] -/
theorem pm_setlc (i : Nat) (c : Bool) (hc : X.calm = true) (hN : X.N.Nodup) (hi : PMi X W tg iter it) (ok : BlkOk X.N X.env.scope scope own)
    (hg : ∀ (s : Shared) (H : Hp) (C : Addr) (cl : List (Str × Addr)) (fp : List Addr), PMg (X.blk s H scope (compEnvC scope cl C X.env) fp) tg g sl)
    (ht : ∀ (s : Shared) (H : Hp) (C : Addr) (cl : List (Str × Addr)) (fp : List Addr), PTs (X.blk s H scope (compEnvC scope cl C X.env) fp) ifs (tT X.K WN tt))
    (he : ∀ (s : Shared) (H : Hp) (C : Addr) (cl : List (Str × Addr)) (fp : List Addr), PE (X.blk s H scope (compEnvC scope cl C X.env) fp) elt (tE X.K WN te))
    (hy : X.N[i]? = some y := by rfl) (hyl : X.env.scope.names.lookup y = some .local := by rfl) (hk : X.env.scope.kind = .function := by rfl) (hl : (py.line == pos.line) = true := by rfl) (ha : (scope.names.any fun (n, k) => n == y && (k == .local || k == .cell)) = false := by rfl)
    (hs : ∀ x, foldedSetIterable iter X.env x = pure x := by intro _; rfl) (hsl : ∀ i ∈ sl, i ∈ own.map (·.2) := by decide) :
    PS X (.Assign [.Name y py] (.ListComp elt [⟨tg, iter, ifs, 0⟩] scope pos) spos) (tS X.K W B (sSet (mLc c it g tt te (own.map (·.2))) i)) :=
  ps_weak (ps_setLc hc hN hy hyl (sw_true hk hyl hl ha) hi.pi ok (fun s H C cl fp => (hg s H C cl fp).pg) ht he hs) fun D σ H h => by
    have z := rd_lc (K := X.K) (W := W) (c := c) hsl (σ := σ) (H := H) (Q := fun x H1 => gName i x σ H1 D.nx) (sl := sl) (it := it) (g := g) (tt := tt) (te := te) ?_
    · exact z
    · exact tGen_mono (tS_do (R := Den X.K) (k := fun ρ d S1 => .nx (ρ.set i (some d)) S1) h) fun v H1 ⟨ρ1, ι1, d, S1, s, dd, f⟩ => f _ _ _ (s.set i dd)
end
/-- any arguments that such a def takes -/
theorem bindsBy {K : PySem.W.Frag} {x qual : Str} {params : Arguments} {body : List Stmt} {scope : Scope} {kws : List (Str × V)} {f : Addr} {fd : FuncData} {args : Args} {binds : List (Str × Value)} (F : FunD K x qual params body scope [] kws f fd)
    (h : ∀ (kV doc pm : Value) (an : Option Addr) (cdv ct : Value), bindArgs (PySem.W.fnOf x qual params body scope .none kV doc pm an cdv ct) args = pure binds) (s : Shared) : BindsTo s fd args binds := by
  obtain ⟨oc, od, dV, kV, doc, pm, an, cdv, ct, osl, rfl, lk, hcd, hD, hK⟩ := F.ex
  rcases hD with ⟨_, rfl⟩ | ⟨e, _⟩
  · exact .of_eq (h kV doc pm an cdv ct)
  · exact absurd rfl e
end MD

set_option maxHeartbeats 4000000
namespace MD
open PySem PySem.Spec PyProof.Rows L2

/-! ### the functions reckoned with -/
@[simp] theorem bind_ok {α β : Type} (a : α) (S : Store) (k : α → Store → Res β) : (Res.ok a S).bind k = k a S := rfl
@[simp] theorem bind_exc {α β : Type} (x : Exn) (S : Store) (k : α → Store → Res β) : (Res.exc x S : Res α).bind k = .exc x S := rfl
@[simp] theorem do_ok {α : Type} (a : α) (S : Store) (ρ : MD.Env) (k : α → Store → SR) : sDo (.ok a S) ρ k = k a S := rfl
@[simp] theorem do_exc {α : Type} (x : Exn) (S : Store) (ρ : MD.Env) (k : α → Store → SR) : sDo (.exc x S : Res α) ρ k = .exc x ρ S := rfl
@[simp] theorem endB_nx (ρ : MD.Env) (S : Store) : endB (.nx ρ S) = .ok .non S := rfl
@[simp] theorem endB_rt (d : D) (S : Store) : endB (.rt d S) = .ok d S := rfl
@[simp] theorem endB_exc (x : Exn) (ρ : MD.Env) (S : Store) : endB (.exc x ρ S) = .exc x S := rfl
/-- a comprehension that changes nothing -/
theorem lcL_map {ck : Store → Bool} {g : GM} {tt : BM} {te : EM} {vs : List Nat} {ρ : MD.Env} {S : Store} (hck : ck S = true) (b : D → Bool) (f : D → D) : ∀ (xs acc : List D), (∀ x, x ∈ xs → ∃ ρ1, g x (wipeE ρ vs) S = some ρ1 ∧ tt ρ1 S = .ok (b x) S ∧ (b x = true → te ρ1 S = .ok (f x) S)) → acc.length + xs.length ≤ sizeLine →
    lcL ck g tt te vs ρ xs acc S = .ok (acc ++ (xs.filter b).map f) S
  | [], acc, _, _ => by unfold lcL; rw [if_pos hck]; simp
  | x :: r, acc, h, hl => by
    obtain ⟨ρ1, h1, h2, h3⟩ := h x List.mem_cons_self
    have hl' : acc.length + (r.length + 1) ≤ sizeLine := by simpa using hl
    unfold lcL
    rw [if_pos hck, h1]
    simp only [h2, noX]
    cases hb : b x with
    | false =>
      simp only [Bool.false_eq_true, if_false]
      rw [lcL_map hck b f r acc (fun y hy => h y (List.mem_cons_of_mem _ hy)) (by omega)]
      rw [List.filter_cons_of_neg (by simp [hb])]
    | true =>
      simp only [if_true, h3 hb]
      rw [if_pos (by omega), lcL_map hck b f r (acc ++ [f x]) (fun y hy => h y (List.mem_cons_of_mem _ hy)) (by simp; omega)]
      rw [List.filter_cons_of_pos hb]
      simp
/-- .. without tests -/
theorem lcL_all {ck : Store → Bool} {g : GM} {te : EM} {vs : List Nat} {ρ : MD.Env} {S : Store} (hck : ck S = true) (f : D → D) (xs acc : List D) (h : ∀ x, x ∈ xs → ∃ ρ1, g x (wipeE ρ vs) S = some ρ1 ∧ te ρ1 S = .ok (f x) S) (hl : acc.length + xs.length ≤ sizeLine) :
    lcL ck g bYes te vs ρ xs acc S = .ok (acc ++ xs.map f) S := by
  rw [lcL_map hck (fun _ => true) f xs acc (fun x hx => by obtain ⟨ρ1, h1, h2⟩ := h x hx; exact ⟨ρ1, h1, rfl, fun _ => h2⟩) hl, List.filter_eq_self.mpr (fun _ _ => rfl)]
@[simp] theorem ckOf_lst (ys xs : List D) (S : Store) : ckOf (.lst ys) xs S = true := rfl
@[simp] theorem ckOf_tup (ys xs : List D) (S : Store) : ckOf (.tup ys) xs S = true := rfl
@[simp] theorem seqOf_lst (S : Store) (xs : List D) : seqOf S (.lst xs) = some xs := rfl
@[simp] theorem seqOf_tup (S : Store) (xs : List D) : seqOf S (.tup xs) = some xs := rfl
@[simp] theorem lstOf_lst (S : Store) (xs : List D) : lstOf S (.lst xs) = some xs := rfl
@[simp] theorem intsD_map (ns : List Int) : intsD (ns.map D.int) = some ns := by induction ns with | nil => rfl | cons a r ih => simp [intsD, ih]
@[simp] theorem blsD_map (ns : List Bool) : blsD (ns.map D.bl) = some ns := by induction ns with | nil => rfl | cons a r ih => simp [blsD, ih]
@[simp] theorem strsD_map (ns : List Str) : strsD (ns.map D.str) = some ns := by induction ns with | nil => rfl | cons a r ih => simp [strsD, ih]
@[simp] theorem intsD_comp {α : Type} (f : α → Int) (xs : List α) : intsD (xs.map (D.int ∘ f)) = some (xs.map f) := by induction xs with | nil => rfl | cons a r ih => simp [intsD, ih]
@[simp] theorem blsD_comp {α : Type} (f : α → Bool) (xs : List α) : blsD (xs.map (D.bl ∘ f)) = some (xs.map f) := by induction xs with | nil => rfl | cons a r ih => simp [blsD, ih]
@[simp] theorem strsD_comp {α : Type} (f : α → Str) (xs : List α) : strsD (xs.map (D.str ∘ f)) = some (xs.map f) := by induction xs with | nil => rfl | cons a r ih => simp [strsD, ih]
@[simp] theorem eqF_int (i j : Int) (S : Store) : eqF (.int i) (.int j) S = .ok (.bl (decide (i = j))) S := rfl
@[simp] theorem eqF_str (x y : Str) (S : Store) : eqF (.str x) (.str y) S = .ok (.bl (decide (x = y))) S := rfl
@[simp] theorem neF_int (i j : Int) (S : Store) : neF (.int i) (.int j) S = .ok (.bl (!decide (i = j))) S := rfl
@[simp] theorem neF_str (x y : Str) (S : Store) : neF (.str x) (.str y) S = .ok (.bl (!decide (x = y))) S := rfl
@[simp] theorem lenF_lst (xs : List D) (S : Store) : lenF (.lst xs) S = .ok (.int xs.length) S := rfl
@[simp] theorem lenF_tup (xs : List D) (S : Store) : lenF (.tup xs) S = .ok (.int xs.length) S := rfl
@[simp] theorem allF_bls (bs : List Bool) (S : Store) : allF (.lst (bs.map D.bl)) S = .ok (.bl (bs.all id)) S := by simp [allF, blsF]
@[simp] theorem allF_comp {α : Type} (f : α → Bool) (xs : List α) (S : Store) : allF (.lst (xs.map fun x => D.bl (f x))) S = .ok (.bl (xs.all f)) S := by
  have : (xs.map fun x => D.bl (f x)) = (xs.map f).map D.bl := by simp
  rw [this, allF_bls]
  simp
@[simp] theorem CT_true (i j : Int) : CT i j = True := rfl
end MD

set_option maxHeartbeats 400000
namespace MD
open PySem PySem.Spec PyProof.Rows L2 PySem.NumText

/-! ### numbers as words -/
theorem str_ext {x y : Str} (h : x.cps.toList = y.cps.toList) : x = y := by
  obtain ⟨⟨a⟩⟩ := x
  obtain ⟨⟨b⟩⟩ := y
  simp at h
  rw [h]
theorem str_ext_iff {x y : Str} : x = y ↔ x.cps.toList = y.cps.toList := ⟨fun h => by rw [h], str_ext⟩
theorem len_cps (x : Str) : x.length = x.cps.toList.length := by simp [Str.length]
/-- a word without its sign -/
def unsigned (cs : List Nat) : List Nat := match cs with
  | 45 :: ds => ds
  | ds => ds
theorem minus_cps : (Str.ofString "-").cps.toList = [45] := by decide
theorem rpre_cps (w : Str) : (Txt.removeprefix w "-").cps.toList = unsigned w.cps.toList := by
  unfold Txt.removeprefix
  rw [StrLaws.subAt_eq, minus_cps, List.drop_zero]
  have hl : Str.length "-" = 1 := by decide
  rw [hl]
  cases q : w.cps.toList with
  | nil => simp [Txt.affix, q, unsigned]
  | cons c cs =>
    by_cases hc : c = 45
    · subst hc
      have hw : w.length = cs.length + 1 := by rw [len_cps, q]; rfl
      have e1 : (w.length - 1 == w.length) = false := beq_eq_false_iff_ne.mpr (by omega)
      simp only [List.take_succ_cons, List.take_zero, beq_self_eq_true, if_true, Txt.affix, e1, Bool.false_eq_true, if_false, unsigned]
      unfold Builtin.Str.strSub
      simp [q, hw]
    · have e2 : (List.take 1 (c :: cs) == [45]) = false := by simp [hc]
      simp only [e2, Bool.false_eq_true, if_false, Txt.affix, q]
      unfold unsigned
      split
      · rename_i h; simp at h; exact absurd h.1 hc
      · rfl
/-- digits, one to nine -/
def goodDigits (ds : List Nat) : Bool := !ds.isEmpty && decide (ds.length ≤ 9) && ds.all fun c => decide (48 ≤ c) && decide (c ≤ 57)
theorem good_ok {ds : List Nat} (h : goodDigits ds = true) : ds ≠ [] ∧ ds.length ≤ 9 ∧ AllDigits ds := by
  unfold goodDigits at h
  simp only [Bool.and_eq_true, Bool.not_eq_true', List.isEmpty_eq_false_iff, decide_eq_true_eq, List.all_eq_true] at h
  exact ⟨h.1.1, h.1.2, h.2⟩
/-- the number that a word is -/
def numOf (cs : List Nat) : Option Int :=
  if goodDigits (unsigned cs) = true then
    if (unsigned cs).head? = some 48 ∧ cs ≠ [48] then none
    else if cs.head? = some 45 then some (-((digitsVal (unsigned cs) : Nat) : Int)) else some ((digitsVal (unsigned cs) : Nat) : Int)
  else none
theorem digits_len : ∀ (k n : Nat), n < 10 ^ (k + 1) → (Nat.toDigits 10 n).length ≤ k + 1
  | 0, n, h => by rw [Nat.toDigits_of_lt_base (by simpa using h)]; simp
  | k + 1, n, h => by
    by_cases h10 : n < 10
    · rw [Nat.toDigits_of_lt_base h10]; simp
    · have e : Nat.toDigits 10 (n / 10) ++ Nat.toDigits 10 (n % 10) = Nat.toDigits 10 (10 * (n / 10) + n % 10) := Nat.toDigits_append_toDigits (by decide) (by omega) (Nat.mod_lt _ (by decide))
      rw [Nat.div_add_mod] at e
      rw [← e, List.length_append, Nat.toDigits_of_lt_base (Nat.mod_lt n (by decide))]
      have h2 := digits_len k (n / 10) (by rw [Nat.pow_succ] at h; omega)
      simp only [List.length_singleton]
      omega
theorem cps_int (v : Int) : (Str.ofString (toString v)).cps.toList = if 0 ≤ v then (Nat.toDigits 10 v.natAbs).map Char.toNat else 45 :: (Nat.toDigits 10 v.natAbs).map Char.toNat := by
  cases v with
  | ofNat n =>
    rw [if_pos (show (0 : Int) ≤ Int.ofNat n from Int.natCast_nonneg n)]
    exact PySem.W.KIN.signs_num n
  | negSucc n =>
    rw [if_neg (by omega), signs_ofString]
    show (("-" ++ Nat.repr (n + 1) : String)).toList.map Char.toNat = 45 :: (Nat.toDigits 10 (n + 1)).map Char.toNat
    rw [String.toList_append, List.map_append, Nat.toList_repr]
    rfl
theorem map_back {ds : List Nat} (h : AllDigits ds) : (ds.map Char.ofNat).map Char.toNat = ds := by
  rw [List.map_map]
  conv => rhs; rw [← List.map_id ds]
  refine List.map_congr_left fun c hc => ?_
  obtain ⟨h1, h2⟩ := h c hc
  have : ∀ c : Fin 58, 48 ≤ c.val → (Char.ofNat c.val).toNat = c.val := by decide
  exact this ⟨c, by omega⟩ h1
theorem drop_len (p : Nat → Bool) : ∀ l : List Nat, (l.dropWhile p).length ≤ l.length
  | [] => by simp
  | a :: r => by
    rw [List.dropWhile_cons]
    split
    · exact Nat.le_succ_of_le (drop_len p r)
    · exact Nat.le_refl _
theorem drop_sub (p : Nat → Bool) : ∀ {l : List Nat} {x : Nat}, x ∈ l.dropWhile p → x ∈ l
  | a :: r, x, h => by
    rw [List.dropWhile_cons] at h
    split at h
    · exact List.mem_cons_of_mem _ (drop_sub p h)
    · exact h
/-- the digits of a number written with digits -/
theorem digits_back {ds : List Nat} (h : AllDigits ds) (hne : ds ≠ []) : ((Nat.toDigits 10 (digitsVal ds)).map Char.toNat = ds ↔ ¬ (ds.head? = some 48 ∧ ds ≠ [48])) := by
  have e : (Nat.toDigits 10 (digitsVal ds)).map Char.toNat = match ds.dropWhile (· == 48) with
    | [] => [48]
    | c :: r => c :: r := by
    rw [toDigits_all ds h]
    cases q : ds.dropWhile (· == 48) with
    | nil => rfl
    | cons c r =>
      show ((c :: r).map Char.ofNat).map Char.toNat = c :: r
      exact map_back fun d hd => h d (drop_sub _ (q ▸ hd))
  rw [e]
  cases ds with
  | nil => exact absurd rfl hne
  | cons c r =>
    by_cases hc : c = 48
    · subst hc
      simp only [List.dropWhile_cons, beq_self_eq_true, if_true, List.head?_cons, true_and]
      cases r with
      | nil => simp
      | cons d r =>
        have hl := drop_len (· == 48) (d :: r)
        constructor
        · intro hh
          split at hh
          · simp at hh
          · rename_i c' r' q
            rw [q] at hl
            have := congrArg List.length hh
            simp at this hl
            omega
        · intro hh; exact absurd (by simp) hh
    · have e2 : (c == 48) = false := beq_eq_false_iff_ne.mpr hc
      simp [List.dropWhile_cons, hc]
theorem val_zero {ds : List Nat} (h : AllDigits ds) (hne : ds ≠ []) (hz : digitsVal ds = 0) : ds.head? = some 48 := by
  cases ds with
  | nil => exact absurd rfl hne
  | cons c r =>
    by_cases hc : 49 ≤ c
    · have := digitsVal_pos (cs := r) hc
      omega
    · have := h.head
      simp
      omega
theorem fold_le : ∀ (ds : List Nat) (acc : Nat), AllDigits ds → ds.foldl (fun acc c => acc * 10 + (c - 48)) acc < (acc + 1) * 10 ^ ds.length
  | [], acc, _ => by simp
  | c :: r, acc, h => by
    have h1 := fold_le r (acc * 10 + (c - 48)) h.tail
    have h2 := h.head
    rw [List.foldl_cons, List.length_cons, Nat.pow_succ]
    refine Nat.lt_of_lt_of_le h1 ?_
    rw [Nat.mul_comm (10 ^ r.length) 10, ← Nat.mul_assoc]
    exact Nat.mul_le_mul_right _ (by omega)
theorem val_le (ds : List Nat) (h : AllDigits ds) : digitsVal ds < 10 ^ ds.length := by
  have := fold_le ds 0 h
  simpa [digitsVal] using this
/-- int(word), str(int(word)) == word -/
theorem int_word {w : Str} (h : goodDigits (unsigned w.cps.toList) = true) : ∃ v : Int, intText? w = some v ∧ w.length ≤ 640 ∧ v.natAbs.log2 < 1920 ∧
    (Str.ofString (toString v) = w ↔ ¬ ((unsigned w.cps.toList).head? = some 48 ∧ w.cps.toList ≠ [48])) ∧ v = if w.cps.toList.head? = some 45 then -((digitsVal (unsigned w.cps.toList) : Nat) : Int) else ((digitsVal (unsigned w.cps.toList) : Nat) : Int) := by
  obtain ⟨h1, h2, h3⟩ := good_ok h
  have lv : digitsVal (unsigned w.cps.toList) < 10 ^ 9 := Nat.lt_of_lt_of_le (val_le _ h3) (Nat.pow_le_pow_right (by decide) h2)
  have ll : ∀ n : Nat, n < 10 ^ 9 → n.log2 < 1920 := fun n hn => by
    by_cases h0 : n = 0
    · subst h0; decide
    · exact (Nat.log2_lt h0).mpr (Nat.lt_of_lt_of_le hn (by decide +kernel))
  have db := digits_back h3 h1
  cases q : w.cps.toList with
  | nil => rw [q] at h1; exact absurd rfl h1
  | cons c cs =>
    have hw : w.length = cs.length + 1 := by rw [len_cps, q]; rfl
    by_cases hc : c = 45
    · subst hc
      rw [q] at h h1 h2 h3 lv db
      have u : unsigned (45 :: cs) = cs := rfl
      rw [u] at h h1 h2 h3 lv db
      refine ⟨-((digitsVal cs : Nat) : Int), intText_neg q h3 h1 (by omega), by omega, by rw [Int.natAbs_neg, Int.natAbs_natCast]; exact ll _ lv, ?_, by simp [u]⟩
      rw [str_ext_iff, cps_int, q, u]
      by_cases hz : digitsVal cs = 0
      · have := val_zero h3 h1 hz
        simp [hz, this]
      · rw [if_neg (by omega)]
        have e : (-((digitsVal cs : Nat) : Int)).natAbs = digitsVal cs := by omega
        rw [e]
        have nz : cs ≠ [48] := fun e => by rw [e] at hz; exact hz (by decide)
        simp only [List.cons.injEq, true_and, db]
        constructor
        · intro a b; exact a ⟨b.1, nz⟩
        · intro a b; exact a ⟨b.1, by simp⟩
    · have u : unsigned (c :: cs) = c :: cs := by
        unfold unsigned
        split
        · rename_i e; simp at e; exact absurd e.1 hc
        · rfl
      rw [q] at h h1 h2 h3 lv db
      rw [u] at h h1 h2 h3 lv db
      have h3' : AllDigits w.cps.toList := by rw [q]; exact h3
      have it := intText_digits h3' (by rw [q]; simp) (by simp at h2; omega)
      rw [q] at it
      refine ⟨((digitsVal (c :: cs) : Nat) : Int), it, by simp at h2; omega, by rw [Int.natAbs_natCast]; exact ll _ lv, ?_, by simp [u, hc]⟩
      rw [str_ext_iff, cps_int, q, u, if_pos (Int.natCast_nonneg _), Int.natAbs_natCast]
      exact db

/-! ### lists compared -/
theorem toPyL_strs (g : Nat → Option (List PyData)) (l : List Str) : toPyL g (l.map D.str) = some (l.map PyData.str) := by
  induction l with
  | nil => simp [toPyL]
  | cons a r ih => simp [toPyL, toPy, ih]
theorem toPyL_ints (g : Nat → Option (List PyData)) (l : List Int) : toPyL g (l.map D.int) = some (l.map PyData.int) := by
  induction l with
  | nil => simp [toPyL]
  | cons a r ih => simp [toPyL, toPy, ih]
theorem flat_strs (S : Store) (l : List Str) : flatS S (.lst (l.map D.str)) = some (.list (l.map PyData.str)) := by
  simp [flatS, flat, toPy, toPyL_strs]
theorem flat_ints (S : Store) (l : List Int) : flatS S (.lst (l.map D.int)) = some (.list (l.map PyData.int)) := by
  simp [flatS, flat, toPy, toPyL_ints]
theorem lay_strs (l : List Str) (h : ∀ x ∈ l, PyData.strOk x = true) : PyData.canLayAll0 (l.map PyData.str) = true ∧ PyData.depthAll (l.map PyData.str) ≤ 1 := by
  induction l with
  | nil => simp [PyData.canLayAll0, PyData.depthAll]
  | cons a r ih => simp [PyData.canLayAll0, PyData.canLay0, PyData.depthAll, PyData.depth, ih fun x hx => h x (List.mem_cons_of_mem _ hx), h a List.mem_cons_self]
theorem lay_ints (l : List Int) : PyData.canLayAll0 (l.map PyData.int) = true ∧ PyData.depthAll (l.map PyData.int) ≤ 1 := by
  induction l with
  | nil => simp [PyData.canLayAll0, PyData.depthAll]
  | cons a r ih => simp [PyData.canLayAll0, PyData.canLay0, PyData.depthAll, PyData.depth, ih]
theorem eqv_strs : ∀ l m : List Str, PyData.eqvAll (l.map PyData.str) (m.map PyData.str) = decide (l = m)
  | [], [] => by simp [PyData.eqvAll]
  | [], _ :: _ => by simp [PyData.eqvAll]
  | _ :: _, [] => by simp [PyData.eqvAll]
  | a :: l, b :: m => by
    simp only [List.map_cons, PyData.eqvAll, PyData.eqv, eqv_strs l m]
    rw [Bool.eq_iff_iff]
    simp
theorem eqv_ints : ∀ l m : List Int, PyData.eqvAll (l.map PyData.int) (m.map PyData.int) = decide (l = m)
  | [], [] => by simp [PyData.eqvAll]
  | [], _ :: _ => by simp [PyData.eqvAll]
  | _ :: _, [] => by simp [PyData.eqvAll]
  | a :: l, b :: m => by
    simp only [List.map_cons, PyData.eqvAll, PyData.eqv, eqv_ints l m]
    rw [Bool.eq_iff_iff]
    simp
theorem eqA_strs (S : Store) (l m : List Str) (hl : ∀ x ∈ l, PyData.strOk x = true) (hm : ∀ x ∈ m, PyData.strOk x = true) : eqA S (.lst (l.map D.str)) (.lst (m.map D.str)) = some (decide (l = m)) := by
  have h1 := lay_strs l hl
  have h2 := lay_strs m hm
  have e : eqS (.lst (l.map D.str)) (.lst (m.map D.str)) = none := rfl
  unfold eqA
  rw [e, flat_strs, flat_strs]
  have s1 : SeqAt.shaped (.list (l.map PyData.str)) = true := by simp [SeqAt.shaped, PyData.canLay0, PyData.depth, h1.1]; omega
  have s2 : SeqAt.shaped (.list (m.map PyData.str)) = true := by simp [SeqAt.shaped, PyData.canLay0, PyData.depth, h2.1]; omega
  simp [s1, s2, PyData.eqv, eqv_strs]
theorem eqA_ints (S : Store) (l m : List Int) : eqA S (.lst (l.map D.int)) (.lst (m.map D.int)) = some (decide (l = m)) := by
  have h1 := lay_ints l
  have h2 := lay_ints m
  have e : eqS (.lst (l.map D.int)) (.lst (m.map D.int)) = none := rfl
  unfold eqA
  rw [e, flat_ints, flat_ints]
  have s1 : SeqAt.shaped (.list (l.map PyData.int)) = true := by simp [SeqAt.shaped, PyData.canLay0, PyData.depth, h1.1]; omega
  have s2 : SeqAt.shaped (.list (m.map PyData.int)) = true := by simp [SeqAt.shaped, PyData.canLay0, PyData.depth, h2.1]; omega
  simp [s1, s2, PyData.eqv, eqv_ints]
end MD

set_option maxHeartbeats 400000
namespace MD
open PySem PySem.Spec PyProof.Rows L2

/-! ### draws from a bag -/
/-- S' has what S has, but for the object n -/
structure Kp (n : Nat) (S S' : Store) : Prop where
  len : S.length ≤ S'.length
  same : ∀ m, m < S.length → m ≠ n → S'[m]? = S[m]?
theorem Kp.refl (n : Nat) (S : Store) : Kp n S S := ⟨Nat.le_refl _, fun _ _ _ => rfl⟩
theorem Kp.trans {n : Nat} {S S1 S2 : Store} (a : Kp n S S1) (b : Kp n S1 S2) : Kp n S S2 :=
  ⟨Nat.le_trans a.len b.len, fun m h k => by rw [b.same m (Nat.lt_of_lt_of_le h a.len) k, a.same m h k]⟩
theorem Kp.app (n : Nat) (S T : Store) : Kp n S (S ++ T) := ⟨by simp, fun m h _ => List.getElem?_append_left h⟩
theorem Kp.set (n : Nat) (S : Store) (c : Cell) : Kp n S (S.set n c) := ⟨by simp, fun m h k => List.getElem?_set_ne (Ne.symm k)⟩
/-- a bag with numbers for so many draws -/
structure Bag (S : Store) (n : Nat) (B : Nat) : Prop where
  ex : ∃ r c t : Int, S[n]? = some (.lst [.int r, .int c, .int t]) ∧ 0 ≤ r ∧ 0 ≤ c ∧ c < 1000000000000000003 ∧ 0 ≤ t ∧ t + B ≤ 1000000
theorem Bag.lt {S : Store} {n B : Nat} (b : Bag S n B) : n < S.length := by
  obtain ⟨r, c, t, h, _⟩ := b.ex
  exact (List.getElem?_eq_some_iff.mp h).1
theorem Bag.less {S : Store} {n A B : Nat} (b : Bag S n B) (h : A ≤ B) : Bag S n A := by
  obtain ⟨r, c, t, h1, h2, h3, h4, h5, h6⟩ := b.ex
  exact ⟨r, c, t, h1, h2, h3, h4, h5, by omega⟩
theorem Bag.app {S : Store} {n B : Nat} (b : Bag S n B) (T : Store) : Bag (S ++ T) n B := by
  have l := b.lt
  obtain ⟨r, c, t, h1, h2⟩ := b.ex
  exact ⟨r, c, t, by rw [List.getElem?_append_left l]; exact h1, h2⟩
/-- the text of all laws' draw -/
def drawM : SM := sSeq (sIf (bVal (mOp2 gtF (mOp2 ixF (mVar 0) (mC (.int 0))) (mC (.int 0)))) (sSeq (sSet (mOp2 modF (mApp (one intF) (aCons (mOp2 ixF (mVar 0) (mC (.int 0))) (aNil))) (mVar 1)) 2)
  (sSeq (sPut (mVar 0) (mC (.int 0)) (mOp2 fdivF (mOp2 ixF (mVar 0) (mC (.int 0))) (mVar 1)))
  (sRet (mVar 2)))) (sNx))
  (sSeq (sPut (mVar 0) (mC (.int 2)) (mOp2 (addF false) (mOp2 ixF (mVar 0) (mC (.int 2))) (mC (.int 1))))
  (sSeq (sSet (mOp2 ixF (mVar 0) (mC (.int 2))) 3)
  (sSeq (sSet (mOp2 (addF false) (mOp2 mulF (mOp2 (addF false) (mOp2 ixF (mVar 0) (mC (.int 1))) (mC (.int 7))) (mOp2 (addF false) (mOp2 (addF false) (mOp2 mulF (mOp2 mulF (mC (.int 31)) (mVar 3)) (mVar 3)) (mOp2 mulF (mC (.int 104729)) (mVar 3))) (mC (.int 13)))) (mOp2 mulF (mC (.int 17)) (mVar 3))) 4)
  (sSeq (sSet (mOp2 fdivF (mOp2 modF (mApp (one intF) (aCons (mOp2 (addF false) (mOp2 mulF (mVar 4) (mVar 4)) (mOp2 mulF (mC (.int 999983)) (mVar 4))) (aNil))) (mC (.int 1000000000000000009))) (mC (.int 1009))) 4)
  (sRet (mOp2 modF (mOp2 fdivF (mOp2 modF (mApp (one intF) (aCons (mOp2 (addF false) (mOp2 (addF false) (mOp2 mulF (mVar 4) (mVar 4)) (mOp2 mulF (mC (.int 65537)) (mVar 4))) (mVar 3)) (aNil))) (mC (.int 2147483629))) (mC (.int 16))) (mVar 1)))))))
theorem ixF_loc {S : Store} {n : Nat} {xs : List D} {i : Int} (h : S[n]? = some (.lst xs)) {x : D} (hx : atI xs i = some x) : ixF (.loc n) (.int i) S = .ok x S := by simp [ixF, seqOf, lstOf, h, hx]
theorem mulF_ok {i j : Int} (S : Store) (h : CMulA i j) : mulF (.int i) (.int j) S = .ok (.int (i * j)) S := if_pos h
theorem fdivF_ok {i j : Int} (S : Store) (h : CDivA i j) : fdivF (.int i) (.int j) S = .ok (.int (i / j)) S := if_pos h
theorem modF_ok {i j : Int} (S : Store) (h : 0 < j) : modF (.int i) (.int j) S = .ok (.int (i % j)) S := if_pos h
theorem cmul_l {i j : Int} (h : 0 ≤ i) (k : i < 18446744073709551616) : CMulA i j := .inl (.inl ⟨by omega, by omega⟩)
theorem cmul_r {i j : Int} (h : 0 ≤ j) (k : j < 18446744073709551616) : CMulA i j := .inl (.inr ⟨by omega, by omega⟩)
theorem cdiv_small {i j : Int} (h : 0 < j) (k : j < 1073741824) : CDivA i j := ⟨h, .inl (by omega)⟩
theorem cdiv_great {i j : Int} (h : 0 < j) (k : j.natAbs < 10 ^ 40) : CDivA i j := ⟨h, .inr (by
  have := (Nat.log2_lt (by omega : j.natAbs ≠ 0)).mpr (Nat.lt_of_lt_of_le k (show 10 ^ 40 ≤ 2 ^ 1920 by decide +kernel))
  omega)⟩
/-! ### words of the functions, one by one -/
theorem seq_nx {a b : SM} {ρ ρ1 : MD.Env} {S S1 : Store} (h : a ρ S = .nx ρ1 S1) : sSeq a b ρ S = b ρ1 S1 := by simp [sSeq, h]
theorem seq_exc {a b : SM} {ρ ρ1 : MD.Env} {S S1 : Store} {x : Exn} (h : a ρ S = .exc x ρ1 S1) : sSeq a b ρ S = .exc x ρ1 S1 := by simp [sSeq, h]
theorem seq_rt {a b : SM} {ρ : MD.Env} {S S1 : Store} {d : D} (h : a ρ S = .rt d S1) : sSeq a b ρ S = .rt d S1 := by simp [sSeq, h]
theorem newCel_eq {xs : List D} (h : xs.length ≤ 1000000) (S : Store) : newCel xs S = .ok (.loc S.length) (S ++ [.lst xs]) := if_pos (Nat.le_trans h (by rw [sizeLine_eq]; omega))
theorem newTup_eq {xs : List D} (h : xs.length ≤ 1000000) (S : Store) : newTup xs S = .ok (.tup xs) S := if_pos (Nat.le_trans h (by rw [sizeLine_eq]; omega))
theorem newLst_eq {xs : List D} (h : xs.length ≤ 1000000) (S : Store) : newLst xs S = .ok (.lst xs) S := if_pos (Nat.le_trans h (by rw [sizeLine_eq]; omega))
theorem cutD_lo (xs : List D) (k : Nat) (h : k ≤ xs.length) : MD.cutD xs none (some (k : Int)) = xs.take k := by
  unfold MD.cutD
  rw [HT.sIx_none, HT.sIx_nat, Nat.min_eq_left h]
  simp
theorem cutD_hi (xs : List D) (k : Nat) (h : k ≤ xs.length) : MD.cutD xs (some (k : Int)) none = xs.drop k := by
  unfold MD.cutD
  rw [HT.sIx_none, HT.sIx_nat, Nat.min_eq_left h, List.take_of_length_le]
  simp
theorem for_eq {it : IM} {g : GM} {body : SM} {ρ : MD.Env} {S S1 : Store} {p : ItD} (h : it ρ S = .ok p S1) : sFor it g body ρ S = forL p.ck g body p.xs ρ S1 := by unfold sFor; rw [h]; exact do_ok _ _ _ _
theorem itA_eq {f : List D → Store → Res ItD} {t : AM} {ρ : MD.Env} {S S1 : Store} {ds : List D} (h : t ρ S = .ok ds S1) : mItA f t ρ S = f ds S1 := by unfold mItA; rw [h]; exact bind_ok _ _ _
theorem atI_natE {α : Type} (xs : List α) (i : Nat) : atI xs (i : Int) = xs[i]? := by
  unfold atI ixN
  by_cases h : i < xs.length
  · simp [h]
  · have h2 : ¬ ((i : Int) < (xs.length : Int)) := by omega
    simp [h2]
    omega
theorem rngD_zero (i : Int) : rngD i 0 = [] := rfl
theorem rngD_succ (i : Int) (n : Nat) : rngD i (n + 1) = .int i :: rngD (i + 1) n := by
  unfold rngD
  rw [List.range_succ_eq_map, List.map_cons, List.map_map]
  congr 1
  · simp
  · refine List.map_congr_left fun k _ => ?_
    simp
    omega
/-- split's words -/
abbrev wdsOf (t : Str) : List Str := Txt.split t " "
theorem split_run (c : Bool) (t : Str) (S : Store) (ht : t.length ≤ 1000000) : splitF c t [.str " "] S = newL c ((wdsOf t).map .str) S := by
  have h1 : (Str.length " " == 0) = false := by decide
  have h2 : t.length + 2 ≤ sizeLine := by rw [sizeLine_eq]; omega
  exact if_pos ⟨h1, h2⟩
theorem newCel_nil (S : Store) : newCel [] S = .ok (.loc S.length) (S ++ [.lst []]) := if_pos (Nat.zero_le _)
theorem rng1_run (n : Int) (h : 0 ≤ n ∧ n ≤ 1000000) (S : Store) : rng1F [.int n] S = .ok ⟨rngD 0 n.toNat, fun _ => true⟩ S := by
  exact if_pos ⟨by omega, by omega⟩
theorem lt_pow {a : Nat} {x : Int} (h : 0 ≤ x) (k : x < 2 ^ a) : x.natAbs < 2 ^ a := by
  have : ((x.natAbs : Nat) : Int) < ((2 ^ a : Nat) : Int) := by rw [Int.natAbs_of_nonneg h, Int.natCast_pow]; exact k
  exact Int.ofNat_lt.mp this
theorem cmul_w {i j : Int} (a b : Nat) (hi : 0 ≤ i) (hj : 0 ≤ j) (ki : i < 2 ^ a) (kj : j < 2 ^ b) (h0 : 0 < a := by decide) (h1 : 0 < b := by decide) (h : a + b ≤ 1000000 := by decide) : CMulA i j :=
  .inr (wide_mul (lt_pow hi ki) (lt_pow hj kj) h0 h1 h)
theorem sPut_eq {o k e : EM} {ρ : MD.Env} {S : Store} {n j : Nat} {i : Int} {d : D} {xs : List D} (he : e ρ S = .ok d S) (ho : o ρ S = .ok (.loc n) S) (hk : k ρ S = .ok (.int i) S) (hs : S[n]? = some (.lst xs)) (hj : ixN xs.length i = some j) :
    sPut o k e ρ S = .nx ρ (S.set n (.lst (xs.set j d))) := by
  simp [sPut, he, ho, hk, putF2, hs, hj]
def mixed1 (c t : Int) : Int := (c + 7) * (31 * t * t + 104729 * t + 13) + 17 * t
def mixed2 (m : Int) : Int := (m * m + 999983 * m) % 1000000000000000009 / 1009
def mixed3 (m t : Int) : Int := (m * m + 65537 * m + t) % 2147483629 / 16
def drawG : FM := runB 5 drawM
/-- the first way: the digits -/
theorem draw_dig {S : Store} {n : Nat} {r c t m : Int} (h : S[n]? = some (.lst [.int r, .int c, .int t])) (hr : 0 < r) (hm : 1 ≤ m) (hm2 : m.natAbs < 10 ^ 40) :
    drawG [.loc n, .int m] S = .ok (.int (r % m)) (S.set n (.lst [.int (r / m), .int c, .int t])) := by
  have x0 := ixF_loc (i := 0) h (x := .int r) rfl
  have md := modF_ok (i := r) S (show 0 < m by omega)
  have dv := fdivF_ok S (cdiv_great (i := r) (show 0 < m by omega) hm2)
  have pt : ∀ ρ2 : List (Option D), sPut (mVar 0) (mC (.int 0)) (mOp2 fdivF (mOp2 ixF (mVar 0) (mC (.int 0))) (mVar 1)) (some (.loc n) :: some (.int m) :: ρ2) S = .nx (some (.loc n) :: some (.int m) :: ρ2) (S.set n (.lst [.int (r / m), .int c, .int t])) := fun ρ2 =>
    sPut_eq (i := 0) (j := 0) (d := .int (r / m)) (by simp [x0, dv]) rfl rfl h rfl
  simp only [drawG, runB, drawM]
  simp [x0, hr, intF, md, pt, -sPut]
  done
theorem bnd_mul {a b x y : Int} (h0 : 0 ≤ x) (h1 : x ≤ a) (h2 : 0 ≤ y) (h3 : y ≤ b) : 0 ≤ x * y ∧ x * y ≤ a * b :=
  ⟨Int.mul_nonneg h0 h2, Int.mul_le_mul h1 h3 h2 (Int.le_trans h0 h1)⟩
theorem mod_bnd {x k : Int} (hk : 0 < k) : 0 ≤ x % k ∧ x % k < k := ⟨Int.emod_nonneg _ (by omega), Int.emod_lt_of_pos _ hk⟩
/-- the second way: numbers mixed of the cell -/
theorem draw_mix {S : Store} {n : Nat} {r c t m : Int} (h : S[n]? = some (.lst [.int r, .int c, .int t])) (hr : ¬ 0 < r) (hc : 0 ≤ c ∧ c < 1000000000000000003) (ht : 0 ≤ t ∧ t < 1000000) (hm : 1 ≤ m) (hm2 : m.natAbs < 10 ^ 40) :
    drawG [.loc n, .int m] S = .ok (.int (mixed3 (mixed2 (mixed1 c (t + 1))) (t + 1) % m)) (S.set n (.lst [.int r, .int c, .int (t + 1)])) := by
  have hn : n < S.length := (List.getElem?_eq_some_iff.mp h).1
  have h' : (S.set n (.lst [.int r, .int c, .int (t + 1)]))[n]? = some (.lst [.int r, .int c, .int (t + 1)]) := List.getElem?_set_self hn
  have x0 := ixF_loc (i := 0) h (x := .int r) rfl
  have x2 := ixF_loc (i := 2) h (x := .int t) rfl
  have y1 := ixF_loc (i := 1) h' (x := .int c) rfl
  have y2 := ixF_loc (i := 2) h' (x := .int (t + 1)) rfl
  have pt : ∀ ρ2 : List (Option D), sPut (mVar 0) (mC (.int 2)) (mOp2 (addF false) (mOp2 ixF (mVar 0) (mC (.int 2))) (mC (.int 1))) (some (.loc n) :: ρ2) S = .nx (some (.loc n) :: ρ2) (S.set n (.lst [.int r, .int c, .int (t + 1)])) := fun ρ2 =>
    sPut_eq (i := 2) (j := 2) (d := .int (t + 1)) (by simp [x2, addF]) rfl rfl h rfl
  have b1 := bnd_mul (a := 31) (b := 1000000) (x := 31) (y := t + 1) (by omega) (by omega) (by omega) (by omega)
  have b2 := bnd_mul (a := 31000000) (b := 1000000) b1.1 b1.2 (y := t + 1) (by omega) (by omega)
  have b3 := bnd_mul (a := 104729) (b := 1000000) (x := 104729) (y := t + 1) (by omega) (by omega) (by omega) (by omega)
  have b4 := bnd_mul (a := 17) (b := 1000000) (x := 17) (y := t + 1) (by omega) (by omega) (by omega) (by omega)
  have b5 := bnd_mul (a := 1000000000000000010) (b := 100000000000000) (x := c + 7) (y := 31 * (t + 1) * (t + 1) + 104729 * (t + 1) + 13) (by omega) (by omega) (by omega) (by omega)
  have bm : 0 ≤ mixed1 c (t + 1) ∧ mixed1 c (t + 1) < 2 ^ 110 := by unfold mixed1; omega
  have bm2 : 0 ≤ mixed2 (mixed1 c (t + 1)) ∧ mixed2 (mixed1 c (t + 1)) < 2 ^ 60 := by
    unfold mixed2
    generalize mixed1 c (t + 1) * mixed1 c (t + 1) + 999983 * mixed1 c (t + 1) = z
    omega
  have q1 := fun S => mulF_ok S (cmul_l (i := 31) (j := t + 1) (by omega) (by omega))
  have q2 := fun S => mulF_ok S (cmul_r (i := 31 * (t + 1)) (j := t + 1) (by omega) (by omega))
  have q3 := fun S => mulF_ok S (cmul_l (i := 104729) (j := t + 1) (by omega) (by omega))
  have q4 := fun S => mulF_ok S (cmul_l (i := 17) (j := t + 1) (by omega) (by omega))
  have q5 := fun S => mulF_ok S (cmul_l (i := c + 7) (j := 31 * (t + 1) * (t + 1) + 104729 * (t + 1) + 13) (by omega) (by omega))
  have q6 := fun S => mulF_ok S (cmul_w 110 110 bm.1 bm.1 bm.2 bm.2)
  have q7 := fun S => mulF_ok S (cmul_l (i := 999983) (j := mixed1 c (t + 1)) (by omega) (by omega))
  have q8 := fun S => mulF_ok S (cmul_w 60 60 bm2.1 bm2.1 bm2.2 bm2.2)
  have q9 := fun S => mulF_ok S (cmul_l (i := 65537) (j := mixed2 (mixed1 c (t + 1))) (by omega) (by omega))
  have e1 : (c + 7) * (31 * (t + 1) * (t + 1) + 104729 * (t + 1) + 13) + 17 * (t + 1) = mixed1 c (t + 1) := rfl
  have w1 := fun i S => modF_ok (i := i) S (show (0 : Int) < 1000000000000000009 by omega)
  have w2 := fun i S => fdivF_ok S (cdiv_small (i := i) (show (0 : Int) < 1009 by omega) (by omega))
  have w3 := fun i S => modF_ok (i := i) S (show (0 : Int) < 2147483629 by omega)
  have w4 := fun i S => fdivF_ok S (cdiv_small (i := i) (show (0 : Int) < 16 by omega) (by omega))
  have w5 := fun i S => modF_ok (i := i) S (show (0 : Int) < m by omega)
  have e2 : (mixed1 c (t + 1) * mixed1 c (t + 1) + 999983 * mixed1 c (t + 1)) % 1000000000000000009 / 1009 = mixed2 (mixed1 c (t + 1)) := rfl
  simp only [drawG, runB, drawM]
  simp [x0, hr, pt, -sPut, y1, y2, addF, q1, q2, q3, q4, q5, e1, intF, q6, q7, w1, w2, e2, q8, q9, w3, w4, w5]
  rfl
/-- a draw -/
theorem draw_ok {S : Store} {n B : Nat} {m : Int} (b : Bag S n (B + 1)) (hm : 1 ≤ m) (hm2 : m.natAbs < 10 ^ 40) :
    ∃ (d : Int) (S' : Store), drawG [.loc n, .int m] S = .ok (.int d) S' ∧ 0 ≤ d ∧ d < m ∧ Bag S' n B ∧ Kp n S S' ∧ S'.length = S.length := by
  obtain ⟨r, c, t, h, h1, h2, h3, h4, h5⟩ := b.ex
  have hn : n < S.length := (List.getElem?_eq_some_iff.mp h).1
  by_cases hr : 0 < r
  · refine ⟨_, _, draw_dig h hr hm hm2, (mod_bnd (by omega)).1, (mod_bnd (by omega)).2, ⟨r / m, c, t, List.getElem?_set_self hn, Int.ediv_nonneg h1 (by omega), h2, h3, h4, by omega⟩, Kp.set _ _ _, by simp⟩
  · refine ⟨_, _, draw_mix h hr ⟨h2, h3⟩ ⟨h4, by omega⟩ hm hm2, (mod_bnd (by omega)).1, (mod_bnd (by omega)).2, ⟨r, c, t + 1, List.getElem?_set_self hn, h1, h2, h3, by omega, by omega⟩, Kp.set _ _ _, by simp⟩

/-- the text of all laws' bag -/
def bagM : SM := sSeq (sSet (mC (.int 0)) 1)
  (sSeq (sIf (bVal (mOp2 geF (mVar 0) (mOp2 powF (mC (.int 10)) (mC (.int 18))))) (sSet (mOp2 subF (mVar 0) (mOp2 powF (mC (.int 10)) (mC (.int 18)))) 1) (sNx))
  (sRet (mApp (newL true) (aCons (mVar 1) (aCons (mOp2 modF (mApp (one intF) (aCons (mVar 0) (aNil))) (mC (.int 1000000000000000003))) (aCons (mC (.int 0)) (aNil)))))))
theorem powF_ok {i j : Int} (S : Store) (h0 : 0 ≤ j) (h1 : j ≤ 1000000) (h2 : i.natAbs < 2 ^ 64) : powF (.int i) (.int j) S = .ok (.int (i ^ j.toNat)) S := if_pos ⟨h0, h1, h2⟩
theorem pow10_18 (S : Store) : powF (.int 10) (.int 18) S = .ok (.int 1000000000000000000) S := powF_ok S (by decide) (by decide) (by decide)
def bagG : FM := runB 2 bagM
theorem bag_ok (c : Int) (S : Store) : ∃ r m : Int, bagG [.int c] S = .ok (.loc S.length) (S ++ [.lst [.int r, .int m, .int 0]]) ∧ 0 ≤ r ∧ 0 ≤ m ∧ m < 1000000000000000003 := by
  have n1 := fun r m S => newCel_eq (xs := [.int r, .int m, .int 0]) (by simp) S
  have md := modF_ok (i := c) S (show (0 : Int) < 1000000000000000003 by omega)
  have hb := mod_bnd (x := c) (k := 1000000000000000003) (by omega)
  by_cases h : 1000000000000000000 ≤ c
  · exact ⟨c - 1000000000000000000, c % 1000000000000000003, by simp [bagG, bagM, CPow, CModA, h, intF, newL, n1], by omega, hb.1, hb.2⟩
  · exact ⟨0, c % 1000000000000000003, by simp [bagG, bagM, CPow, CModA, h, intF, newL, n1], by omega, hb.1, hb.2⟩
theorem bag_new (c : Int) (S : Store) (B : Nat) (hB : B ≤ 1000000) : ∃ S', bagG [.int c] S = .ok (.loc S.length) S' ∧ Bag S' S.length B ∧ (∃ T, S' = S ++ T) := by
  obtain ⟨r, m, e, h1, h2, h3⟩ := bag_ok c S
  exact ⟨_, e, ⟨r, m, 0, by simp, h1, h2, h3, by omega, by omega⟩, _, rfl⟩
/-- .. and plane -/
def planeM : SM := sRet (mApp newTup (aCons (mOp2 (addF false) (mC (.int 1)) (mApp (argN 2 drawG) (aCons (mVar 0) (aCons (mC (.int 3)) (aNil))))) (aCons (mOp2 (addF false) (mC (.int 1)) (mApp (argN 2 drawG) (aCons (mVar 0) (aCons (mC (.int 3)) (aNil))))) (aNil))))
def planeG : FM := runB 1 planeM
theorem plane_ok {S : Store} {n B : Nat} (b : Bag S n (B + 2)) : ∃ (p q : Nat) (S' : Store), planeG [.loc n] S = .ok (.tup [.int p, .int q]) S' ∧ (1 ≤ p ∧ p ≤ 3) ∧ (1 ≤ q ∧ q ≤ 3) ∧ Bag S' n B ∧ Kp n S S' ∧ S'.length = S.length := by
  obtain ⟨d1, S1, e1, l1, u1, b1, k1, z1⟩ := draw_ok (m := 3) b (by omega) (by omega)
  obtain ⟨d2, S2, e2, l2, u2, b2, k2, z2⟩ := draw_ok (m := 3) b1 (by omega) (by omega)
  have n1 := fun x y S => newTup_eq (xs := [x, y]) (by simp) S
  refine ⟨(1 + d1).toNat, (1 + d2).toNat, S2, ?_, by omega, by omega, b2, k1.trans k2, by omega⟩
  have q1 : ((1 + d1).toNat : Int) = 1 + d1 := by omega
  have q2 : ((1 + d2).toNat : Int) = 1 + d2 := by omega
  rw [q1, q2]
  simp [planeG, planeM, e1, e2, addF, n1]
/-! ### repr -/
theorem rep_ok {S : Store} {d : D} {p : PyData} (B : Nat) (e : flatS S d = some p) (h1 : p.showable = true) (h2 : p.hasDict = false) (h3 : p.depth ≤ 60) (h4 : p.leavesShort B = true) (h5 : 8 ≤ B) (h6 : (B + 2) * p.weight + B ≤ 16777216) : repF d S = .ok (.str p.shown) S := by
  have z := Nat.le_trans (PyData.shown_le B h5 p h4) h6
  unfold repF
  rw [e]
  refine if_pos ?_
  unfold showsOk
  rw [h1, h2, decide_eq_true h3, decide_eq_true (by rw [sizeLine_eq]; omega)]
  rfl
theorem short_int {i : Int} (h : i.natAbs < 10 ^ 40) : (PyData.int i).leavesShort 42 = true ∧ (PyData.int i).showable = true ∧ (PyData.int i).weight ≤ 200 := by
  have d := digits_len 39 i.natAbs h
  have l : i.natAbs.log2 < 1920 := by
    by_cases h0 : i.natAbs = 0
    · rw [h0]; decide
    · exact (Nat.log2_lt h0).mpr (Nat.lt_of_lt_of_le h (by decide +kernel))
  have e : (PyData.shown (.int i)).length ≤ 41 := by
    show (Str.ofString (toString i)).length ≤ 41
    rw [len_cps, cps_int]
    split <;> simp <;> omega
  have l2 : i.natAbs.log2 < 133 := by
    by_cases h0 : i.natAbs = 0
    · rw [h0]; decide
    · exact (Nat.log2_lt h0).mpr (Nat.lt_of_lt_of_le h (by decide +kernel))
  refine ⟨by unfold PyData.leavesShort; exact decide_eq_true (by omega), by unfold PyData.showable; exact decide_eq_true l, ?_⟩
  simp only [PyData.weight]
  split <;> omega
theorem short_ints : ∀ l : List Int, (∀ i ∈ l, i.natAbs < 10 ^ 40) → PyData.leavesShortAll 42 (l.map .int) = true ∧ PyData.showableAll (l.map .int) = true ∧ PyData.hasDictAll (l.map .int) = false ∧ PyData.depthAll (l.map .int) ≤ 1 ∧ PyData.weightAll (l.map .int) ≤ 201 * l.length
  | [], _ => by simp [PyData.leavesShortAll, PyData.showableAll, PyData.hasDictAll, PyData.depthAll, PyData.weightAll]
  | a :: r, h => by
    have h1 := short_int (h a List.mem_cons_self)
    have h2 := short_ints r fun i hi => h i (List.mem_cons_of_mem _ hi)
    simp [PyData.leavesShortAll, PyData.showableAll, PyData.hasDictAll, PyData.depthAll, PyData.weightAll, h1, h2, PyData.hasDict, PyData.depth]
    omega
end MD

set_option maxHeartbeats 400000
namespace MD
open PySem PySem.Spec PyProof.Rows L2

/-! ### words of the functions, one by one -/
theorem if_t {c : BM} {a b : SM} {ρ : MD.Env} {S S1 : Store} (h : c ρ S = .ok true S1) : sIf c a b ρ S = a ρ S1 := by unfold sIf; rw [h]; rfl
theorem if_f {c : BM} {a b : SM} {ρ : MD.Env} {S S1 : Store} (h : c ρ S = .ok false S1) : sIf c a b ρ S = b ρ S1 := by unfold sIf; rw [h]; rfl
theorem set_eq {e : EM} {i : Nat} {ρ : MD.Env} {S S1 : Store} {d : D} (h : e ρ S = .ok d S1) : sSet e i ρ S = .nx (ρ.set i (some d)) S1 := by unfold sSet; rw [h]; rfl
theorem set_exc {e : EM} {i : Nat} {ρ : MD.Env} {S S1 : Store} {x : Exn} (h : e ρ S = .exc x S1) : sSet e i ρ S = .exc x ρ S1 := by unfold sSet; rw [h]; rfl
theorem exp_eq {e : EM} {ρ : MD.Env} {S S1 : Store} {d : D} (h : e ρ S = .ok d S1) : sExp e ρ S = .nx ρ S1 := by unfold sExp; rw [h]; rfl
theorem ret_eq {e : EM} {ρ : MD.Env} {S S1 : Store} {d : D} (h : e ρ S = .ok d S1) : sRet e ρ S = .rt d S1 := by unfold sRet; rw [h]; rfl
theorem app_eq {g : List D → Store → Res D} {t : AM} {ρ : MD.Env} {S S1 : Store} {ds : List D} {r : Res D} (h : t ρ S = .ok ds S1) (k : g ds S1 = r) : mApp g t ρ S = r := by unfold mApp; rw [h]; exact k
theorem call_eq {n : Nat} {G : FM} {t : AM} {ρ : MD.Env} {S S1 : Store} {ds : List D} {r : Res D} (h : t ρ S = .ok ds S1) (k : G ds S1 = r) (hl : ds.length = n := by rfl) : mApp (argN n G) t ρ S = r := by unfold mApp; rw [h]; show argN n G ds S1 = r; unfold argN; rw [if_pos hl]; exact k
theorem cons_eq {m : EM} {t : AM} {ρ : MD.Env} {S S1 S2 : Store} {d : D} {ds : List D} (h : m ρ S = .ok d S1) (k : t ρ S1 = .ok ds S2) : aCons m t ρ S = .ok (d :: ds) S2 := by unfold aCons; rw [h]; show (t ρ S1).bind _ = _; rw [k]; rfl
theorem var_eq {i : Nat} {ρ : MD.Env} {S : Store} {d : D} (h : ρ[i]? = some (some d)) : mVar i ρ S = .ok d S := by unfold mVar; rw [h]
theorem op2_eq {f : D → D → Store → Res D} {a b : EM} {ρ : MD.Env} {S S1 S2 : Store} {x y : D} {r : Res D} (h : a ρ S = .ok x S1) (k : b ρ S1 = .ok y S2) (q : f x y S2 = r) : mOp2 f a b ρ S = r := by unfold mOp2; rw [h]; show (b ρ S1).bind _ = _; rw [k]; exact q
theorem bval_eq {a : EM} {ρ : MD.Env} {S S1 : Store} {b : Bool} (h : a ρ S = .ok (.bl b) S1) : bVal a ρ S = .ok b S1 := by unfold bVal; rw [h]; rfl
theorem try_nx {cs : List (Addr × Bool)} {i : Nat} {suite body : SM} {ρ ρ1 : MD.Env} {S S1 : Store} (h : body ρ S = .nx ρ1 S1) : sTry cs i suite body ρ S = .nx ρ1 S1 := by unfold sTry; rw [h]
theorem try_exc {cs : List (Addr × Bool)} {i : Nat} {suite body : SM} {ρ ρ1 ρ2 : MD.Env} {S S1 S2 : Store} {y : Exn} (h : body ρ S = .exc y ρ1 S1) (hc : cs.lookup y.cls = some true) (k : suite (ρ1.set i (some (.loc S1.length))) (S1 ++ [.exc y]) = .nx ρ2 S2) : sTry cs i suite body ρ S = .nx (ρ2.set i none) S2 := by
  unfold sTry
  rw [h]
  simp only [hc, k]
theorem run_eq (n : Nat) (m : SM) (ds : List D) (S : Store) : runB n m ds S = endB (m (ds.map some ++ List.replicate (n - ds.length) none) S) := rfl
/-! ### words -/
theorem spl_parts : ∀ (cs acc : List Nat) (p : List Nat), p ∈ TL.spl [32] 0 acc cs → p.length ≤ acc.length + cs.length ∧ ∀ c ∈ p, c ∈ acc ∨ c ∈ cs
  | [], acc, p, h => by
    rw [TL.spl_nil] at h
    rw [List.mem_singleton.mp h]
    exact ⟨by simp, fun c hc => .inl hc⟩
  | d :: r, acc, p, h => by
    unfold TL.spl at h
    split at h
    · rcases List.mem_cons.mp h with h | h
      · subst h; exact ⟨by simp, fun c hc => .inl hc⟩
      · have ih := spl_parts r [] p h
        refine ⟨by have := ih.1; simp at this ⊢; omega, fun c hc => ?_⟩
        rcases ih.2 c hc with z | z
        · cases z
        · exact .inr (List.mem_cons_of_mem _ z)
    · have ih := spl_parts r (acc ++ [d]) p h
      refine ⟨by have := ih.1; simp at this ⊢; omega, fun c hc => ?_⟩
      rcases ih.2 c hc with z | z
      · rcases List.mem_append.mp z with z | z
        · exact .inl z
        · rw [List.mem_singleton.mp z]; exact .inr List.mem_cons_self
      · exact .inr (List.mem_cons_of_mem _ z)
theorem spl_count : ∀ (cs acc : List Nat), (TL.spl [32] 0 acc cs).length ≤ cs.length + 1 ∧ TL.spl [32] 0 acc cs ≠ []
  | [], acc => by rw [TL.spl_nil]; simp
  | d :: r, acc => by
    unfold TL.spl
    split
    · have := (spl_count r []).1
      simp at this ⊢; omega
    · have := spl_count r (acc ++ [d])
      exact ⟨by have := this.1; simp at this ⊢; omega, this.2⟩
theorem tl_blank : TL.tl (Str.ofString " ") = [32] := by decide
theorem words_spl (t : Str) : (Txt.split t " ").map TL.tl = TL.spl [32] 0 [] (TL.tl t) := by
  have := TL.split_spl t (Str.ofString " ") (by rw [tl_blank]; simp) (TL.kind_ok (by decide +kernel))
  rw [tl_blank] at this
  exact this
theorem words_ne (t : Str) : wdsOf t ≠ [] := fun e => by
  have h := words_spl t
  have e' : Txt.split t " " = [] := e
  rw [e'] at h
  exact (spl_count (TL.tl t) []).2 h.symm
theorem words_count (t : Str) : (wdsOf t).length ≤ t.length + 1 := by
  have h := congrArg List.length (words_spl t)
  have c := (spl_count (TL.tl t) []).1
  rw [← h, List.length_map] at c
  rw [len_cps]
  exact c
theorem words_mem {t w : Str} (h : w ∈ wdsOf t) : w.length ≤ t.length ∧ ∀ c ∈ w.cps.toList, c ∈ t.cps.toList := by
  have m : TL.tl w ∈ (Txt.split t " ").map TL.tl := List.mem_map_of_mem h
  rw [words_spl] at m
  have z := spl_parts _ _ _ m
  refine ⟨by have := z.1; rw [len_cps, len_cps]; simpa using this, fun c hc => ?_⟩
  rcases z.2 c hc with q | q
  · cases q
  · exact q
theorem strOk_iff {x : Str} : PyData.strOk x = true ↔ ∀ c ∈ x.cps.toList, c < 1114112 := by
  unfold PyData.strOk
  rw [← Array.all_toList, List.all_eq_true]
  simp
/-! ### numbers as words -/
theorem goodDigits_iff (ds : List Nat) : goodDigits ds = true ↔ ds ≠ [] ∧ ds.length ≤ 9 ∧ NumText.AllDigits ds := by
  refine ⟨good_ok, fun ⟨h1, h2, h3⟩ => ?_⟩
  unfold goodDigits
  simp only [Bool.and_eq_true, Bool.not_eq_true', List.isEmpty_eq_false_iff, decide_eq_true_eq, List.all_eq_true]
  exact ⟨⟨h1, h2⟩, fun c hc => h3 c hc⟩
theorem unsigned_of {ds : List Nat} (h : ds.head? ≠ some 45) : unsigned ds = ds := by
  unfold unsigned
  split
  · exact absurd rfl h
  · rfl
theorem numOf_text {v : Int} (h : v.natAbs < 10 ^ 9) : MD.numOf (Str.ofString (toString v)).cps.toList = some v := by
  have d1 := TL.numL_digits v.natAbs
  have d2 := TL.numL_ne v.natAbs
  have d3 : (TL.numL v.natAbs).length ≤ 9 := TL.numL_len (by decide) h
  have d4 := TL.numL_val v.natAbs
  have db : ¬ ((TL.numL v.natAbs).head? = some 48 ∧ TL.numL v.natAbs ≠ [48]) := by
    refine (digits_back d1 d2).mp ?_
    rw [d4]
    rfl
  have e := cps_int v
  have e' : (Str.ofString (toString v)).cps.toList = if 0 ≤ v then TL.numL v.natAbs else 45 :: TL.numL v.natAbs := e
  rw [e']
  have g : goodDigits (TL.numL v.natAbs) = true := (goodDigits_iff _).mpr ⟨d2, d3, d1⟩
  have h45 : (TL.numL v.natAbs).head? ≠ some 45 := by
    cases q : TL.numL v.natAbs with
    | nil => simp
    | cons c r =>
      rw [q] at d1
      have := d1.head
      simp; omega
  by_cases hv : 0 ≤ v
  · rw [if_pos hv]
    unfold MD.numOf
    rw [unsigned_of h45, if_pos g, if_neg db, if_neg h45, d4]
    congr 1
    omega
  · rw [if_neg hv]
    have u : unsigned (45 :: TL.numL v.natAbs) = TL.numL v.natAbs := rfl
    unfold MD.numOf
    rw [u, if_pos g]
    have n48 : ¬ (TL.numL v.natAbs).head? = some 48 := fun hh => by
      have : TL.numL v.natAbs = [48] := Classical.byContradiction fun n => db ⟨hh, n⟩
      rw [this] at d4
      have z : NumText.digitsVal [48] = 0 := by decide
      omega
    rw [if_neg (fun hh => n48 hh.1), if_pos (show (45 :: TL.numL v.natAbs).head? = some 45 from rfl), d4]
    congr 1
    omega
theorem text_signs {v : Int} {c : Nat} (h : c ∈ (Str.ofString (toString v)).cps.toList) : c = 45 ∨ (48 ≤ c ∧ c ≤ 57) := by
  have d1 := TL.numL_digits v.natAbs
  have e' : (Str.ofString (toString v)).cps.toList = if 0 ≤ v then TL.numL v.natAbs else 45 :: TL.numL v.natAbs := cps_int v
  rw [e'] at h
  split at h
  · exact .inr (d1 c h)
  · rcases List.mem_cons.mp h with h | h
    · exact .inl h
    · exact .inr (d1 c h)
/-- words joined, split again -/
theorem split_words {ws : List Str} (hne : ws ≠ []) (h : ∀ w ∈ ws, 32 ∉ w.cps.toList) : wdsOf (Txt.join " " ws) = ws :=
  TL.split_join (y := Str.ofString " ") (s := 32) (S := []) tl_blank (by decide +kernel) hne h
theorem joinL_mem {S : List Nat} : ∀ {ps : List (List Nat)} {c : Nat}, c ∈ TL.joinL S ps → c ∈ S ∨ ∃ p ∈ ps, c ∈ p
  | [], c, h => by cases h
  | [p], c, h => .inr ⟨p, List.mem_cons_self, h⟩
  | p :: q :: r, c, h => by
    have h' : c ∈ p ++ (S ++ TL.joinL S (q :: r)) := h
    rcases List.mem_append.mp h' with h | h
    · exact .inr ⟨p, List.mem_cons_self, h⟩
    · rcases List.mem_append.mp h with h | h
      · exact .inl h
      · rcases joinL_mem h with h | ⟨z, hz, h⟩
        · exact .inl h
        · exact .inr ⟨z, List.mem_cons_of_mem _ hz, h⟩
theorem joinL_len {S : List Nat} : ∀ (ps : List (List Nat)), (TL.joinL S ps).length ≤ (ps.map List.length).sum + ps.length * S.length
  | [] => by simp [TL.joinL]
  | [p] => by simp [TL.joinL]
  | p :: q :: r => by
    have e : TL.joinL S (p :: q :: r) = p ++ (S ++ TL.joinL S (q :: r)) := rfl
    have ih := joinL_len (S := S) (q :: r)
    rw [e]
    simp only [List.length_append, List.map_cons, List.sum_cons, List.length_cons, Nat.add_mul] at ih ⊢
    omega
theorem join_cps (ws : List Str) : (Txt.join " " ws).cps.toList = TL.joinL [32] (ws.map TL.tl) := by
  have h : Txt.join " " ws = Str.join (Str.ofString " ") ws := TL.join_eq _ _
  rw [h]
  have := TL.tl_join (Str.ofString " ") ws
  rw [tl_blank] at this
  exact this
theorem join_mem {ws : List Str} {c : Nat} (h : c ∈ (Txt.join " " ws).cps.toList) : c = 32 ∨ ∃ w ∈ ws, c ∈ w.cps.toList := by
  rw [join_cps] at h
  rcases joinL_mem h with h | ⟨p, hp, h⟩
  · exact .inl (by simpa using h)
  · obtain ⟨w, hw, rfl⟩ := List.mem_map.mp hp
    exact .inr ⟨w, hw, h⟩
theorem join_len (ws : List Str) : (Txt.join " " ws).length ≤ (ws.map (·.length)).sum + ws.length := by
  have h := joinL_len (S := [32]) (ws.map TL.tl)
  rw [len_cps, join_cps]
  simp only [List.map_map, List.length_map, List.length_cons, List.length_nil, Nat.zero_add, Nat.mul_one] at h
  have e : (List.length ∘ TL.tl) = fun x : Str => x.length := funext fun x => (len_cps x).symm
  rw [e] at h
  exact h
end MD

set_option maxHeartbeats 400000
namespace MD
open PySem PySem.Spec PyProof.Rows L2
section
variable {ρ ρ1 : MD.Env} {S S1 S2 S3 S4 : Store}
theorem con_eq {d : D} : mC d ρ S = .ok d S := rfl
theorem op1_eq {f : D → Store → Res D} {a : EM} {x : D} {r : Res D} (h : a ρ S = .ok x S1) (q : f x S1 = r) : mOp1 f a ρ S = r := by unfold mOp1; rw [h]; exact q
theorem nil_eq : aNil ρ S = .ok [] S := rfl
theorem seq_eq {a b : SM} {r : SR} (h : a ρ S = .nx ρ1 S1) (k : b ρ1 S1 = r) : sSeq a b ρ S = r := by rw [seq_nx h]; exact k
theorem not_eq {a : BM} {b : Bool} (h : a ρ S = .ok b S1) : bNot a ρ S = .ok (!b) S1 := by unfold bNot; rw [h]; rfl
theorem mnot_eq {a : EM} {b : Bool} (h : a ρ S = .ok (.bl b) S1) : mNot a ρ S = .ok (.bl (!b)) S1 := by unfold mNot; rw [h]; rfl
theorem and_t {a b : BM} {x : Bool} {r : Res Bool} (h : a ρ S = .ok x S1) (hx : x = true) (k : b ρ S1 = r) : bAnd a b ρ S = r := by unfold bAnd; rw [h, hx]; exact k
theorem and_f {a b : BM} {x : Bool} (h : a ρ S = .ok x S1) (hx : x = false) : bAnd a b ρ S = .ok false S1 := by unfold bAnd; rw [h, hx]; rfl
theorem or_f {a b : BM} {x : Bool} {r : Res Bool} (h : a ρ S = .ok x S1) (hx : x = false) (k : b ρ S1 = r) : bOr a b ρ S = r := by unfold bOr; rw [h, hx]; exact k
theorem or_t {a b : BM} {x : Bool} (h : a ρ S = .ok x S1) (hx : x = true) : bOr a b ρ S = .ok true S1 := by unfold bOr; rw [h, hx]; rfl
theorem mand_t {a b : EM} {x : Bool} {r : Res D} (h : a ρ S = .ok (.bl x) S1) (hx : x = true) (k : b ρ S1 = r) : mAnd a b ρ S = r := by unfold mAnd; rw [h, hx]; exact k
theorem mand_f {a b : EM} {x : Bool} (h : a ρ S = .ok (.bl x) S1) (hx : x = false) : mAnd a b ρ S = .ok (.bl false) S1 := by unfold mAnd; rw [h, hx]; rfl
theorem mor_f {a b : EM} {x : Bool} {r : Res D} (h : a ρ S = .ok (.bl x) S1) (hx : x = false) (k : b ρ S1 = r) : mOr a b ρ S = r := by unfold mOr; rw [h, hx]; exact k
theorem mor_t {a b : EM} {x : Bool} (h : a ρ S = .ok (.bl x) S1) (hx : x = true) : mOr a b ρ S = .ok (.bl true) S1 := by unfold mOr; rw [h, hx]; rfl
theorem mif_t {c : BM} {a b : EM} {x : Bool} {r : Res D} (h : c ρ S = .ok x S1) (hx : x = true) (k : a ρ S1 = r) : mIf c a b ρ S = r := by unfold mIf; rw [h, hx]; exact k
theorem mif_f {c : BM} {a b : EM} {x : Bool} {r : Res D} (h : c ρ S = .ok x S1) (hx : x = false) (k : b ρ S1 = r) : mIf c a b ρ S = r := by unfold mIf; rw [h, hx]; exact k
theorem sif_t {c : BM} {a b : SM} {x : Bool} {r : SR} (h : c ρ S = .ok x S1) (hx : x = true) (k : a ρ S1 = r) : sIf c a b ρ S = r := by subst hx; rw [if_t h]; exact k
theorem sif_f {c : BM} {a b : SM} {x : Bool} {r : SR} (h : c ρ S = .ok x S1) (hx : x = false) (k : b ρ S1 = r) : sIf c a b ρ S = r := by subst hx; rw [if_f h]; exact k
theorem chain_t {f g : D → D → Store → Res D} {a b c : EM} {x y z : D} {k : Bool} {r : Res D} (h1 : a ρ S = .ok x S1) (h2 : b ρ S1 = .ok y S2) (h3 : f x y S2 = .ok (.bl k) S3) (hk : k = true) (h4 : c ρ S3 = .ok z S4) (h5 : g y z S4 = r) : mChain f g a b c ρ S = r := by
  unfold mChain; rw [h1]; show (b ρ S1).bind _ = _; rw [h2]; show (f x y S2).bind _ = _; rw [h3, hk]; show (c ρ S3).bind _ = _; rw [h4]; exact h5
theorem chain_f {f g : D → D → Store → Res D} {a b c : EM} {x y : D} {k : Bool} (h1 : a ρ S = .ok x S1) (h2 : b ρ S1 = .ok y S2) (h3 : f x y S2 = .ok (.bl k) S3) (hk : k = false) : mChain f g a b c ρ S = .ok (.bl false) S3 := by
  unfold mChain; rw [h1]; show (b ρ S1).bind _ = _; rw [h2]; show (f x y S2).bind _ = _; rw [h3, hk]; rfl
theorem onone_eq : oNone ρ S = .ok none S := rfl
theorem osome_eq {a : EM} {i : Int} (h : a ρ S = .ok (.int i) S1) : oSome a ρ S = .ok (some i) S1 := by unfold oSome; rw [h]; rfl
theorem sl_eq {c : Bool} {a : EM} {lo hi : OM} {x : D} {l u : Option Int} {r : Res D} (h1 : a ρ S = .ok x S1) (h2 : lo ρ S1 = .ok l S2) (h3 : hi ρ S2 = .ok u S3) (h4 : slF c x l u S3 = r) : mSl c a lo hi ρ S = r := by
  unfold mSl; rw [h1]; show (lo ρ S1).bind _ = _; rw [h2]; show (hi ρ S2).bind _ = _; rw [h3]; exact h4
theorem mts_eq {f : Str → List D → Store → Res D} {o : EM} {t : AM} {z : Str} {xs : List D} {r : Res D} (h1 : o ρ S = .ok (.str z) S1) (h2 : t ρ S1 = .ok xs S2) (h3 : f z xs S2 = r) : mMtS f o t ρ S = r := by
  unfold mMtS; rw [h1]; show (t ρ S1).bind _ = _; rw [h2]; exact h3
theorem mtl_eq {f : D → List D → Store → Res D} {o : EM} {t : AM} {z : D} {xs ys : List D} {r : Res D} (h1 : o ρ S = .ok z S1) (hz : lstOf S1 z = some ys) (h2 : t ρ S1 = .ok xs S2) (h3 : f z xs S2 = r) : mMtL f o t ρ S = r := by
  unfold mMtL; rw [h1]; show (if (lstOf S1 z).isSome = true then _ else _) = _; rw [hz]; show (t ρ S1).bind _ = _; rw [h2]; exact h3
theorem itm_eq {e : EM} {d : D} {xs : List D} (h : e ρ S = .ok d S1) (hd : seqOf S1 d = some xs) : mIt e ρ S = .ok ⟨xs, ckOf d xs⟩ S1 := by unfold mIt; rw [h]; show itF d S1 = _; unfold itF; rw [hd]
theorem ita_eq {f : List D → Store → Res ItD} {t : AM} {ds : List D} {r : Res ItD} (h : t ρ S = .ok ds S1) (k : f ds S1 = r) : mItA f t ρ S = r := (itA_eq h).trans k
theorem itS_eq {e : EM} {z : Str} (h : e ρ S = .ok (.str z) S1) : mItS e ρ S = .ok ⟨z.cps.toList.map fun c => .str ⟨#[c]⟩, fun _ => true⟩ S1 := by unfold mItS; rw [h]; rfl
theorem sfor_eq {it : IM} {g : GM} {body : SM} {p : ItD} {r : SR} (h : it ρ S = .ok p S1) (k : forL p.ck g body p.xs ρ S1 = r) : sFor it g body ρ S = r := by rw [for_eq h]; exact k
theorem lc_eq {c : Bool} {it : IM} {g : GM} {tt : BM} {te : EM} {vs : List Nat} {p : ItD} {ds : List D} {r : Res D} (h : it ρ S = .ok p S1) (k : lcL p.ck g tt te vs ρ p.xs [] S1 = .ok ds S2) (q : finL c ds S2 = r) : mLc c it g tt te vs ρ S = r := by
  unfold mLc; rw [h]; show (lcL p.ck g tt te vs ρ p.xs [] S1).bind _ = _; rw [k]; exact q
theorem par_eq {i j : Nat} {t : AM} {d e : D} (h : t ρ S = .ok [d, e] S1) : sPar i j t ρ S = .nx ((ρ.set i (some d)).set j (some e)) S1 := by unfold sPar; rw [h]; rfl
theorem asg_eq {e : EM} {g : GM} {d : D} (h : e ρ S = .ok d S1) (k : g d ρ S1 = some ρ1) : sAsg e g ρ S = .nx ρ1 S1 := by unfold sAsg; rw [h]; show (match g d ρ S1 with | some ρ1 => SR.nx ρ1 S1 | none => .bad) = _; rw [k]
theorem nx_eq : sNx ρ S = .nx ρ S := rfl
theorem retN_eq : sRetN ρ S = .rt .non S := rfl
theorem bk_eq : sBk ρ S = .bk ρ S := rfl
theorem ct_eq : sCt ρ S = .ct ρ S := rfl
theorem bYes_eq : bYes ρ S = .ok true S := rfl
theorem raise_eq {C : Addr} : sRaise C ρ S = .exc ⟨C, none⟩ ρ S := rfl
theorem raiseF_eq {C : Addr} {f : Str} {e : EM} {d : D} (h : e ρ S = .ok d S1) : sRaiseF C f e ρ S = .exc ⟨C, some [(f, d)]⟩ ρ S1 := by unfold sRaiseF; rw [h]; rfl
theorem one_eq {f : D → Store → Res D} {d : D} {r : Res D} (h : f d S = r) : one f [d] S = r := h
theorem two_eq {f : D → D → Store → Res D} {d e : D} {r : Res D} (h : f d e S = r) : two f [d, e] S = r := h
theorem end_rt {a : SM} {d : D} (h : a ρ S = .rt d S1) : endB (a ρ S) = .ok d S1 := by rw [h]; rfl
theorem end_nx {a : SM} (h : a ρ S = .nx ρ1 S1) : endB (a ρ S) = .ok .non S1 := by rw [h]; rfl
theorem end_exc {a : SM} {x : Exn} (h : a ρ S = .exc x ρ1 S1) : endB (a ρ S) = .exc x S1 := by rw [h]; rfl
theorem newL_f {xs : List D} (h : xs.length ≤ 1000000) (S : Store) : newL false xs S = .ok (.lst xs) S := newLst_eq h S
theorem newL_t {xs : List D} (h : xs.length ≤ 1000000) (S : Store) : newL true xs S = .ok (.loc S.length) (S ++ [.lst xs]) := newCel_eq h S
theorem finL_f {xs : List D} : finL false xs S = .ok (.lst xs) S := rfl
theorem finL_t {xs : List D} : finL true xs S = .ok (.loc S.length) (S ++ [.lst xs]) := rfl
theorem addF_int {c : Bool} {i j : Int} : addF c (.int i) (.int j) S = .ok (.int (i + j)) S := rfl
theorem subF_int {i j : Int} : subF (.int i) (.int j) S = .ok (.int (i - j)) S := rfl
theorem ltF_int {i j : Int} : ltF (.int i) (.int j) S = .ok (.bl (decide (i < j))) S := rfl
theorem leF_int {i j : Int} : leF (.int i) (.int j) S = .ok (.bl (decide (i ≤ j))) S := rfl
theorem gtF_int {i j : Int} : gtF (.int i) (.int j) S = .ok (.bl (decide (j < i))) S := rfl
theorem geF_int {i j : Int} : geF (.int i) (.int j) S = .ok (.bl (decide (j ≤ i))) S := rfl
theorem negF_int {i : Int} : negF (.int i) S = .ok (.int (-i)) S := rfl
theorem addF_lst {c : Bool} {d e : D} {xs ys : List D} {r : Res D} (h1 : lstOf S d = some xs) (h2 : lstOf S e = some ys) (k : newL c (xs ++ ys) S = r) : addF c d e S = r := by
  unfold addF
  split
  · cases h1
  · cases h1
  · cases h1
  · rw [h1, h2]; exact k
theorem addF_str {c : Bool} {x y : Str} (h : x.length + y.length ≤ 1000000) : addF c (.str x) (.str y) S = .ok (.str (x ++ y)) S := if_pos (Nat.le_trans h (by rw [sizeLine_eq]; omega))
theorem addF_tup {c : Bool} {xs ys : List D} (h : (xs ++ ys).length ≤ 1000000) : addF c (.tup xs) (.tup ys) S = .ok (.tup (xs ++ ys)) S := newTup_eq h S
theorem lst_lst {xs : List D} : lstOf S (.lst xs) = some xs := rfl
theorem lst_loc {n : Nat} {xs : List D} (h : S[n]? = some (.lst xs)) : lstOf S (.loc n) = some xs := by simp [lstOf, h]
theorem seq_lst {d : D} {xs : List D} (h : lstOf S d = some xs) : seqOf S d = some xs := by
  cases d with
  | lst ys => exact h
  | loc n => exact h
  | _ => cases h
theorem seq_tup {xs : List D} : seqOf S (.tup xs) = some xs := rfl
theorem ixF_eq {d : D} {xs : List D} {i : Int} {x : D} (h : seqOf S d = some xs) (k : atI xs i = some x) : ixF d (.int i) S = .ok x S := by
  unfold ixF
  cases d with
  | str z => cases h
  | _ => simp only [h, k]
theorem lenF_eq {d : D} {xs : List D} (h : seqOf S d = some xs) : lenF d S = .ok (.int xs.length) S := by
  unfold lenF
  cases d with
  | str z => cases h
  | _ => simp only [h]
theorem lenF_str {z : Str} (h : z.length ≤ 1000000) : lenF (.str z) S = .ok (.int z.length) S := if_pos (Nat.le_trans h (by rw [sizeLine_eq]; omega))
theorem slF_tup {c : Bool} {xs : List D} {lo hi : Option Int} : slF c (.tup xs) lo hi S = .ok (.tup (MD.cutD xs lo hi)) S := rfl
theorem slF_lst {c : Bool} {d : D} {xs : List D} {lo hi : Option Int} {r : Res D} (h : lstOf S d = some xs) (k : newL c (MD.cutD xs lo hi) S = r) : slF c d lo hi S = r := by
  unfold slF
  cases d with
  | lst ys => simp only [h]; exact k
  | loc n => simp only [h]; exact k
  | _ => cases h
theorem slF_str {c : Bool} {z : Str} {lo hi : Option Int} (h : z.length ≤ 1000000) : slF c (.str z) lo hi S = .ok (.str (cutS z lo hi)) S := if_pos (Nat.le_trans h (by rw [sizeLine_eq]; omega))
end
end MD

set_option maxHeartbeats 400000
namespace MD
open PySem PySem.Spec PyProof.Rows L2

/-! ### slices -/
theorem cutD_to (xs : List D) (k : Nat) : MD.cutD xs none (some (k : Int)) = xs.take k := by
  unfold MD.cutD
  rw [HT.sIx_none, HT.sIx_nat, List.drop_zero, Nat.sub_zero]
  by_cases h : k ≤ xs.length
  · rw [Nat.min_eq_left h]
  · rw [Nat.min_eq_right (by omega), List.take_of_length_le (Nat.le_refl _), List.take_of_length_le (by omega)]
theorem cutD_from (xs : List D) (k : Nat) : MD.cutD xs (some (k : Int)) none = xs.drop k := by
  unfold MD.cutD
  rw [HT.sIx_none, HT.sIx_nat]
  by_cases h : k ≤ xs.length
  · rw [Nat.min_eq_left h, List.take_of_length_le]
    simp
  · rw [Nat.min_eq_right (by omega), List.drop_eq_nil_of_le (Nat.le_refl _), List.drop_eq_nil_of_le (by omega)]
    simp
theorem cutD_mid (xs : List D) (i j : Nat) : MD.cutD xs (some (i : Int)) (some (j : Int)) = (xs.drop i).take (j - i) := by
  unfold MD.cutD
  rw [HT.sIx_nat, HT.sIx_nat]
  refine List.ext_getElem? fun n => ?_
  simp only [List.getElem?_take, List.getElem?_drop]
  by_cases h : i ≤ xs.length
  · by_cases h2 : j ≤ xs.length
    · rw [Nat.min_eq_left h, Nat.min_eq_left h2]
    · rw [Nat.min_eq_left h, Nat.min_eq_right (by omega)]
      by_cases h3 : n < xs.length - i
      · rw [if_pos h3, if_pos (by omega)]
      · rw [if_neg h3, List.getElem?_eq_none (by omega)]
        split <;> rfl
  · rw [Nat.min_eq_right (show xs.length ≤ i by omega), List.getElem?_eq_none (show xs.length ≤ xs.length + n by omega), List.getElem?_eq_none (show xs.length ≤ i + n by omega)]
    split <;> split <;> rfl
theorem cutS_to (z : Str) (k : Nat) : (cutS z none (some (k : Int))).cps.toList = z.cps.toList.take k := by
  unfold cutS
  rw [HT.sIx_none, HT.sIx_nat, List.drop_zero, Nat.sub_zero, len_cps]
  simp only [List.toList_toArray]
  by_cases h : k ≤ z.cps.toList.length
  · rw [Nat.min_eq_left h]
  · rw [Nat.min_eq_right (by omega), List.take_of_length_le (Nat.le_refl _), List.take_of_length_le (by omega)]
theorem cutS_from (z : Str) (k : Nat) : (cutS z (some (k : Int)) none).cps.toList = z.cps.toList.drop k := by
  unfold cutS
  rw [HT.sIx_nat, HT.sIx_none, len_cps]
  simp only [List.toList_toArray]
  by_cases h : k ≤ z.cps.toList.length
  · rw [Nat.min_eq_left h, List.take_of_length_le]
    simp
  · rw [Nat.min_eq_right (by omega), List.drop_eq_nil_of_le (Nat.le_refl _), List.drop_eq_nil_of_le (by omega)]
    simp
theorem slF_to {zs : List D} {i : Int} (k : Nat) (hi : i = (k : Int)) (h : zs.length ≤ 1000000) (S : Store) : slF false (.lst zs) none (some i) S = .ok (.lst (zs.take k)) S := by
  subst hi
  exact slF_lst lst_lst (by rw [cutD_to]; exact newL_f (by rw [List.length_take]; omega) S)
theorem slF_from {zs : List D} {i : Int} (k : Nat) (hi : i = (k : Int)) (h : zs.length ≤ 1000000) (S : Store) : slF false (.lst zs) (some i) none S = .ok (.lst (zs.drop k)) S := by
  subst hi
  exact slF_lst lst_lst (by rw [cutD_from]; exact newL_f (by rw [List.length_drop]; omega) S)
theorem slF_mid {zs : List D} {i j : Int} (k l : Nat) (hi : i = (k : Int)) (hj : j = (l : Int)) (h : zs.length ≤ 1000000) (S : Store) : slF false (.lst zs) (some i) (some j) S = .ok (.lst ((zs.drop k).take (l - k))) S := by
  subst hi
  subst hj
  exact slF_lst lst_lst (by rw [cutD_mid]; exact newL_f (by rw [List.length_take, List.length_drop]; omega) S)
/-! ### plain words -/
/-- of plain signs, not long -/
structure Asc (L : Nat) (w : Str) : Prop where
  len : w.length ≤ L
  asc : ∀ c ∈ w.cps.toList, c < 128
structure Wl (L : Nat) (zs : List D) : Prop where
  mem : ∀ z ∈ zs, ∃ w, z = .str w ∧ Asc L w
theorem Wl.nil {L : Nat} : Wl L [] := ⟨fun _ h => nomatch h⟩
theorem Wl.cons {L : Nat} {w : Str} {zs : List D} (h : Asc L w) (t : Wl L zs) : Wl L (.str w :: zs) := ⟨fun z m => by
  rcases List.mem_cons.mp m with m | m
  · exact ⟨w, m, h⟩
  · exact t.mem z m⟩
theorem Wl.app {L : Nat} {xs ys : List D} (a : Wl L xs) (b : Wl L ys) : Wl L (xs ++ ys) := ⟨fun z m => (List.mem_append.mp m).elim (a.mem z) (b.mem z)⟩
theorem Wl.take {L : Nat} {xs : List D} (a : Wl L xs) (k : Nat) : Wl L (xs.take k) := ⟨fun z m => a.mem z (List.mem_of_mem_take m)⟩
theorem Wl.drop {L : Nat} {xs : List D} (a : Wl L xs) (k : Nat) : Wl L (xs.drop k) := ⟨fun z m => a.mem z (List.mem_of_mem_drop m)⟩
theorem Asc.more {L M : Nat} {w : Str} (h : Asc L w) (k : L ≤ M) : Asc M w := ⟨Nat.le_trans h.len k, h.asc⟩
theorem Wl.more {L M : Nat} {xs : List D} (a : Wl L xs) (k : L ≤ M) : Wl M xs := ⟨fun z m => let ⟨w, e, h⟩ := a.mem z m; ⟨w, e, h.more k⟩⟩
theorem Wl.strs {L : Nat} : ∀ {xs : List D}, Wl L xs → ∃ ws : List Str, xs = ws.map .str ∧ ∀ w ∈ ws, Asc L w
  | [], _ => ⟨[], rfl, fun _ h => nomatch h⟩
  | x :: xs, h => by
    obtain ⟨w, rfl, hw⟩ := h.mem x List.mem_cons_self
    obtain ⟨ws, rfl, hs⟩ := Wl.strs (xs := xs) ⟨fun z m => h.mem z (List.mem_cons_of_mem _ m)⟩
    exact ⟨w :: ws, rfl, fun y hy => by
      rcases List.mem_cons.mp hy with hy | hy
      · rw [hy]; exact hw
      · exact hs y hy⟩
theorem Asc.app {L M : Nat} {x y : Str} (a : Asc L x) (b : Asc M y) : Asc (L + M) (x ++ y) := by
  have e : (x ++ y).cps.toList = x.cps.toList ++ y.cps.toList := TL.tl_append x y
  refine ⟨?_, fun c hc => ?_⟩
  · have h1 := a.len
    have h2 := b.len
    rw [len_cps] at h1 h2 ⊢
    rw [e, List.length_append]
    omega
  · rw [e] at hc
    exact (List.mem_append.mp hc).elim (a.asc c) (b.asc c)
theorem Asc.to {L : Nat} {x : Str} (a : Asc L x) (k : Nat) : Asc (min k L) (cutS x none (some (k : Int))) := by
  refine ⟨?_, fun c hc => ?_⟩
  · have h := a.len
    rw [len_cps] at h ⊢
    rw [cutS_to, List.length_take]
    omega
  · rw [cutS_to] at hc
    exact a.asc c (List.mem_of_mem_take hc)
theorem Asc.from {L : Nat} {x : Str} (a : Asc L x) (k : Nat) : Asc (L - k) (cutS x (some (k : Int)) none) := by
  refine ⟨?_, fun c hc => ?_⟩
  · have h := a.len
    rw [len_cps] at h ⊢
    rw [cutS_from, List.length_drop]
    omega
  · rw [cutS_from] at hc
    exact a.asc c (List.mem_of_mem_drop hc)
def ascB (L : Nat) (w : Str) : Bool := decide (w.length ≤ L) && w.cps.toList.all fun c => decide (c < 128)
theorem asc_of {L : Nat} {w : Str} (h : ascB L w = true) : Asc L w := by
  unfold ascB at h
  simp only [Bool.and_eq_true, decide_eq_true_eq, List.all_eq_true] at h
  exact ⟨h.1, h.2⟩
theorem atI_some {xs : List D} {d : Nat} (h : d < xs.length) : ∃ x, atI xs (d : Int) = some x ∧ x ∈ xs := by
  rw [MD.atI_natE]
  exact ⟨xs[d], List.getElem?_eq_getElem h, List.getElem_mem h⟩
/-- a draw, as a natural number -/
theorem draw_nat {S : Store} {n B : Nat} (m : Nat) (b : Bag S n (B + 1)) (hm : 1 ≤ m) (hm2 : m < 10 ^ 40) :
    ∃ (d : Nat) (S' : Store), drawG [.loc n, .int m] S = .ok (.int d) S' ∧ d < m ∧ Bag S' n B ∧ Kp n S S' ∧ S'.length = S.length := by
  obtain ⟨d, S', e, h1, h2, h3, h4, h5⟩ := draw_ok (m := (m : Int)) b (by omega) (by rw [Int.natAbs_natCast]; exact hm2)
  refine ⟨d.toNat, S', ?_, by omega, h3, h4, h5⟩
  rw [Int.toNat_of_nonneg h1]
  exact e
/-! ### comprehensions and loops that draw -/
inductive F2 (R : D → D → Prop) : List D → List D → Prop
  | nil : F2 R [] []
  | cons {x y : D} {xs ys : List D} : R x y → F2 R xs ys → F2 R (x :: xs) (y :: ys)
theorem lc_step {ck : Store → Bool} {g : GM} {te : EM} {vs : List Nat} {ρ ρ1 : MD.Env} {x d : D} {r acc : List D} {S S1 : Store} {q : Res (List D)} (h0 : ck S = true) (h1 : g x (wipeE ρ vs) S = some ρ1) (h2 : te ρ1 S = .ok d S1) (h3 : acc.length ≤ 1000000) (h4 : lcL ck g bYes te vs ρ r (acc ++ [d]) S1 = q) : lcL ck g bYes te vs ρ (x :: r) acc S = q := by
  unfold lcL
  rw [if_pos h0, h1]
  simp only [bYes, noX, if_true, h2]
  rw [if_pos (by rw [sizeLine_eq]; omega)]
  exact h4
theorem lc_done {ck : Store → Bool} {g : GM} {tt : BM} {te : EM} {vs : List Nat} {ρ : MD.Env} {acc : List D} {S : Store} (h0 : ck S = true) : lcL ck g tt te vs ρ [] acc S = .ok acc S := by
  unfold lcL
  rw [if_pos h0]
theorem for_step {ck : Store → Bool} {g : GM} {body : SM} {ρ ρ1 ρ2 : MD.Env} {x : D} {r : List D} {S S2 : Store} {q : SR} (h0 : ck S = true) (h1 : g x ρ S = some ρ1) (h2 : body ρ1 S = .nx ρ2 S2) (h4 : forL ck g body r ρ2 S2 = q) : forL ck g body (x :: r) ρ S = q := by
  unfold forL
  rw [if_pos h0, h1]
  simp only [h2]
  exact h4
theorem for_rt {ck : Store → Bool} {g : GM} {body : SM} {ρ ρ1 : MD.Env} {x d : D} {r : List D} {S S2 : Store} (h0 : ck S = true) (h1 : g x ρ S = some ρ1) (h2 : body ρ1 S = .rt d S2) : forL ck g body (x :: r) ρ S = .rt d S2 := by
  unfold forL
  rw [if_pos h0, h1]
  simp only [h2]
theorem for_done {ck : Store → Bool} {g : GM} {body : SM} {ρ : MD.Env} {S : Store} (h0 : ck S = true) : forL ck g body [] ρ S = .nx ρ S := by
  unfold forL
  rw [if_pos h0]
theorem lcL_eff {ck : Store → Bool} {g : GM} {te : EM} {vs : List Nat} {ρ : MD.Env} (I : Nat → Store → Prop) (R : D → D → Prop) (hck : ∀ k S, I k S → ck S = true) : ∀ (xs acc : List D) (S : Store),
    (∀ x ∈ xs, ∀ k S, I (k + 1) S → ∃ ρ1 d S', g x (wipeE ρ vs) S = some ρ1 ∧ te ρ1 S = .ok d S' ∧ R x d ∧ I k S') → acc.length + xs.length ≤ sizeLine → I xs.length S →
    ∃ ds S', lcL ck g bYes te vs ρ xs acc S = .ok (acc ++ ds) S' ∧ F2 R xs ds ∧ I 0 S'
  | [], acc, S, _, _, hI => ⟨[], S, by unfold lcL; rw [if_pos (hck _ _ hI), List.append_nil], .nil, hI⟩
  | x :: r, acc, S, h, hl, hI => by
    obtain ⟨ρ1, d, S1, h1, h2, h3, h4⟩ := h x List.mem_cons_self _ S hI
    have hl' : acc.length + (r.length + 1) ≤ sizeLine := by simpa using hl
    obtain ⟨ds, S', e, f, i⟩ := lcL_eff I R hck r (acc ++ [d]) S1 (fun y hy => h y (List.mem_cons_of_mem _ hy)) (by simp; omega) h4
    refine ⟨d :: ds, S', ?_, .cons h3 f, i⟩
    unfold lcL
    rw [if_pos (hck _ _ hI), h1]
    simp only [bYes, noX, if_true, h2]
    rw [if_pos (by omega), e]
    simp
theorem forL_inv {ck : Store → Bool} {g : GM} {body : SM} (I : Nat → MD.Env → Store → Prop) (hck : ∀ k ρ S, I k ρ S → ck S = true) : ∀ (xs : List D) (ρ : MD.Env) (S : Store),
    (∀ x ∈ xs, ∀ k ρ S, I (k + 1) ρ S → ∃ ρ1 ρ2 S2, g x ρ S = some ρ1 ∧ body ρ1 S = .nx ρ2 S2 ∧ I k ρ2 S2) → I xs.length ρ S → ∃ ρ' S', forL ck g body xs ρ S = .nx ρ' S' ∧ I 0 ρ' S'
  | [], ρ, S, _, hI => ⟨ρ, S, by unfold forL; rw [if_pos (hck _ _ _ hI)], hI⟩
  | x :: r, ρ, S, h, hI => by
    obtain ⟨ρ1, ρ2, S2, h1, h2, h3⟩ := h x List.mem_cons_self _ ρ S hI
    obtain ⟨ρ', S', e, i⟩ := forL_inv I hck r ρ2 S2 (fun y hy => h y (List.mem_cons_of_mem _ hy)) h3
    refine ⟨ρ', S', ?_, i⟩
    unfold forL
    rw [if_pos (hck _ _ _ hI), h1]
    simp only [h2]
    exact e
theorem rngD_len (i : Int) (n : Nat) : (rngD i n).length = n := by simp [rngD]
theorem rngD_mem {i : Int} {n : Nat} {x : D} (h : x ∈ rngD i n) : ∃ k : Nat, k < n ∧ x = .int (i + k) := by
  unfold rngD at h
  obtain ⟨k, hk, rfl⟩ := List.mem_map.mp h
  exact ⟨k, List.mem_range.mp hk, rfl⟩
/-! ### replace -/
theorem spl_sum : ∀ (cs acc : List Nat), ((TL.spl [32] 0 acc cs).map List.length).sum ≤ acc.length + cs.length
  | [], acc => by rw [TL.spl_nil]; simp
  | d :: r, acc => by
    unfold TL.spl
    split
    · have := spl_sum r []
      simp at this ⊢; omega
    · have := spl_sum r (acc ++ [d])
      simp at this ⊢; omega
theorem repl_asc {L M : Nat} {x z : Str} (a : Asc L x) (b : Asc M z) : Asc (L + (L + 1) * M) (Txt.replace x " " z) := by
  have e0 : (Str.ofString " ") = (⟨#[32]⟩ : Str) := by decide
  have e : Txt.replace x " " z = Str.join z (Txt.split x " ") := by
    show Txt.replace x (Str.ofString " ") z = Str.join z (Txt.split x (Str.ofString " "))
    rw [e0]
    exact StrLaws.replace_one x z 32
  have j := TL.tl_join z (Txt.split x " ")
  have hs : ((Txt.split x " ").map TL.tl) = TL.spl [32] 0 [] (TL.tl x) := words_spl x
  rw [hs] at j
  have hl : (TL.tl x).length ≤ L := by rw [← TL.len_tl]; exact a.len
  have hb : (TL.tl z).length ≤ M := by rw [← TL.len_tl]; exact b.len
  refine ⟨?_, fun c hc => ?_⟩
  · rw [len_cps, e]
    show (TL.tl (Str.join z (Txt.split x " "))).length ≤ _
    rw [j]
    have h1 := joinL_len (S := TL.tl z) (TL.spl [32] 0 [] (TL.tl x))
    have h2 := spl_sum (TL.tl x) []
    have h3 := (spl_count (TL.tl x) []).1
    have h4 : (TL.spl [32] 0 [] (TL.tl x)).length * (TL.tl z).length ≤ (L + 1) * M := Nat.mul_le_mul (by omega) hb
    simp only [List.length_nil] at h2
    omega
  · rw [e] at hc
    replace hc : c ∈ TL.tl (Str.join z (Txt.split x " ")) := hc
    rw [j] at hc
    rcases joinL_mem hc with q | ⟨p, hp, q⟩
    · exact b.asc c q
    · have := (spl_parts _ _ p hp).2 c q
      rcases this with z | z
      · cases z
      · exact a.asc c z
theorem replF_ok {x y z : Str} (S : Store) (h : x.length + (x.length + 1) * z.length ≤ 16777216) : replF y z (.str x) S = .ok (.str (Txt.replace x y z)) S := if_pos h
theorem mulSF_ok {z : Str} {n : Int} (S : Store) (h : 2 ≤ n ∧ n ≤ 4096 ∧ z.length ≤ 1000 ∧ 1 ≤ z.length) : mulSF (.str z) (.int n) S = .ok (.str (Txt.mul z n)) S := if_pos h
end MD

set_option maxHeartbeats 4000000
namespace K63
open PySem PySem.Spec PyProof.Rows L2 MD
def top (i : Nat) : Stmt := PySem.Challenge.pw_unknowncorners_k63_settings_written_and.main.body.getD i (.Pass ⟨0, 0, 0, 0⟩)
abbrev FnP (K : PySem.W.Frag) (x : Str) (i : Nat) : Prop := ∃ fd, FunD K x x (defArgs (top i)) (defBody (top i)) (defScope (top i)) [] [] (He.ga K x) fd
abbrev cPaintError : Addr := 24
abbrev cInvalidFrame : Addr := 37
abbrev cInvalidSetting : Addr := 49
abbrev cInvalidText : Addr := 68
def kb_InvalidFrame : List (String × Bool) := [("NoneType", false), ("bool", false), ("int", false), ("str", false), ("tuple", false), ("list", false)]
def cb_InvalidFrame : List (Addr × Bool) := []
def eb_InvalidFrame : List (Addr × Bool) := [(cPaintError, false), (cInvalidFrame, true), (cInvalidSetting, false), (cInvalidText, false)]
@[simp] theorem lk_InvalidFrame_NoneType : List.lookup "NoneType" kb_InvalidFrame = some false := by decide +kernel
@[simp] theorem lk_InvalidFrame_bool : List.lookup "bool" kb_InvalidFrame = some false := by decide +kernel
@[simp] theorem lk_InvalidFrame_int : List.lookup "int" kb_InvalidFrame = some false := by decide +kernel
@[simp] theorem lk_InvalidFrame_str : List.lookup "str" kb_InvalidFrame = some false := by decide +kernel
@[simp] theorem lk_InvalidFrame_tuple : List.lookup "tuple" kb_InvalidFrame = some false := by decide +kernel
@[simp] theorem lk_InvalidFrame_list : List.lookup "list" kb_InvalidFrame = some false := by decide +kernel
@[simp] theorem le_InvalidFrame_PaintError : List.lookup 24 eb_InvalidFrame = some false := by decide +kernel
@[simp] theorem le_InvalidFrame_InvalidFrame : List.lookup 37 eb_InvalidFrame = some true := by decide +kernel
@[simp] theorem le_InvalidFrame_InvalidSetting : List.lookup 49 eb_InvalidFrame = some false := by decide +kernel
@[simp] theorem le_InvalidFrame_InvalidText : List.lookup 68 eb_InvalidFrame = some false := by decide +kernel
def kb_InvalidSetting : List (String × Bool) := [("NoneType", false), ("bool", false), ("int", false), ("str", false), ("tuple", false), ("list", false)]
def cb_InvalidSetting : List (Addr × Bool) := []
def eb_InvalidSetting : List (Addr × Bool) := [(cPaintError, false), (cInvalidFrame, false), (cInvalidSetting, true), (cInvalidText, false)]
@[simp] theorem lk_InvalidSetting_NoneType : List.lookup "NoneType" kb_InvalidSetting = some false := by decide +kernel
@[simp] theorem lk_InvalidSetting_bool : List.lookup "bool" kb_InvalidSetting = some false := by decide +kernel
@[simp] theorem lk_InvalidSetting_int : List.lookup "int" kb_InvalidSetting = some false := by decide +kernel
@[simp] theorem lk_InvalidSetting_str : List.lookup "str" kb_InvalidSetting = some false := by decide +kernel
@[simp] theorem lk_InvalidSetting_tuple : List.lookup "tuple" kb_InvalidSetting = some false := by decide +kernel
@[simp] theorem lk_InvalidSetting_list : List.lookup "list" kb_InvalidSetting = some false := by decide +kernel
@[simp] theorem le_InvalidSetting_PaintError : List.lookup 24 eb_InvalidSetting = some false := by decide +kernel
@[simp] theorem le_InvalidSetting_InvalidFrame : List.lookup 37 eb_InvalidSetting = some false := by decide +kernel
@[simp] theorem le_InvalidSetting_InvalidSetting : List.lookup 49 eb_InvalidSetting = some true := by decide +kernel
@[simp] theorem le_InvalidSetting_InvalidText : List.lookup 68 eb_InvalidSetting = some false := by decide +kernel
def kb_InvalidText : List (String × Bool) := [("NoneType", false), ("bool", false), ("int", false), ("str", false), ("tuple", false), ("list", false)]
def cb_InvalidText : List (Addr × Bool) := []
def eb_InvalidText : List (Addr × Bool) := [(cPaintError, false), (cInvalidFrame, false), (cInvalidSetting, false), (cInvalidText, true)]
@[simp] theorem lk_InvalidText_NoneType : List.lookup "NoneType" kb_InvalidText = some false := by decide +kernel
@[simp] theorem lk_InvalidText_bool : List.lookup "bool" kb_InvalidText = some false := by decide +kernel
@[simp] theorem lk_InvalidText_int : List.lookup "int" kb_InvalidText = some false := by decide +kernel
@[simp] theorem lk_InvalidText_str : List.lookup "str" kb_InvalidText = some false := by decide +kernel
@[simp] theorem lk_InvalidText_tuple : List.lookup "tuple" kb_InvalidText = some false := by decide +kernel
@[simp] theorem lk_InvalidText_list : List.lookup "list" kb_InvalidText = some false := by decide +kernel
@[simp] theorem le_InvalidText_PaintError : List.lookup 24 eb_InvalidText = some false := by decide +kernel
@[simp] theorem le_InvalidText_InvalidFrame : List.lookup 37 eb_InvalidText = some false := by decide +kernel
@[simp] theorem le_InvalidText_InvalidSetting : List.lookup 49 eb_InvalidText = some false := by decide +kernel
@[simp] theorem le_InvalidText_InvalidText : List.lookup 68 eb_InvalidText = some true := by decide +kernel
def kb_ValueError : List (String × Bool) := [("NoneType", false), ("bool", false), ("int", false), ("str", false), ("tuple", false), ("list", false)]
def cb_ValueError : List (Addr × Bool) := []
def eb_ValueError : List (Addr × Bool) := [(cPaintError, true), (cInvalidFrame, true), (cInvalidSetting, true), (cInvalidText, true)]
@[simp] theorem lk_ValueError_NoneType : List.lookup "NoneType" kb_ValueError = some false := by decide +kernel
@[simp] theorem lk_ValueError_bool : List.lookup "bool" kb_ValueError = some false := by decide +kernel
@[simp] theorem lk_ValueError_int : List.lookup "int" kb_ValueError = some false := by decide +kernel
@[simp] theorem lk_ValueError_str : List.lookup "str" kb_ValueError = some false := by decide +kernel
@[simp] theorem lk_ValueError_tuple : List.lookup "tuple" kb_ValueError = some false := by decide +kernel
@[simp] theorem lk_ValueError_list : List.lookup "list" kb_ValueError = some false := by decide +kernel
@[simp] theorem le_ValueError_PaintError : List.lookup 24 eb_ValueError = some true := by decide +kernel
@[simp] theorem le_ValueError_InvalidFrame : List.lookup 37 eb_ValueError = some true := by decide +kernel
@[simp] theorem le_ValueError_InvalidSetting : List.lookup 49 eb_ValueError = some true := by decide +kernel
@[simp] theorem le_ValueError_InvalidText : List.lookup 68 eb_ValueError = some true := by decide +kernel
theorem bt_ValueError : bootBuiltins "ValueError" = some (.type "ValueError") := by decide +kernel
def kb_bool : List (String × Bool) := [("NoneType", false), ("bool", true), ("int", false), ("str", false), ("tuple", false), ("list", false)]
def cb_bool : List (Addr × Bool) := []
def eb_bool : List (Addr × Bool) := [(cPaintError, false), (cInvalidFrame, false), (cInvalidSetting, false), (cInvalidText, false)]
@[simp] theorem lk_bool_NoneType : List.lookup "NoneType" kb_bool = some false := by decide +kernel
@[simp] theorem lk_bool_bool : List.lookup "bool" kb_bool = some true := by decide +kernel
@[simp] theorem lk_bool_int : List.lookup "int" kb_bool = some false := by decide +kernel
@[simp] theorem lk_bool_str : List.lookup "str" kb_bool = some false := by decide +kernel
@[simp] theorem lk_bool_tuple : List.lookup "tuple" kb_bool = some false := by decide +kernel
@[simp] theorem lk_bool_list : List.lookup "list" kb_bool = some false := by decide +kernel
@[simp] theorem le_bool_PaintError : List.lookup 24 eb_bool = some false := by decide +kernel
@[simp] theorem le_bool_InvalidFrame : List.lookup 37 eb_bool = some false := by decide +kernel
@[simp] theorem le_bool_InvalidSetting : List.lookup 49 eb_bool = some false := by decide +kernel
@[simp] theorem le_bool_InvalidText : List.lookup 68 eb_bool = some false := by decide +kernel
theorem bt_bool : bootBuiltins "bool" = some (.type "bool") := by decide +kernel
def kb_int : List (String × Bool) := [("NoneType", false), ("bool", true), ("int", true), ("str", false), ("tuple", false), ("list", false)]
def cb_int : List (Addr × Bool) := []
def eb_int : List (Addr × Bool) := [(cPaintError, false), (cInvalidFrame, false), (cInvalidSetting, false), (cInvalidText, false)]
@[simp] theorem lk_int_NoneType : List.lookup "NoneType" kb_int = some false := by decide +kernel
@[simp] theorem lk_int_bool : List.lookup "bool" kb_int = some true := by decide +kernel
@[simp] theorem lk_int_int : List.lookup "int" kb_int = some true := by decide +kernel
@[simp] theorem lk_int_str : List.lookup "str" kb_int = some false := by decide +kernel
@[simp] theorem lk_int_tuple : List.lookup "tuple" kb_int = some false := by decide +kernel
@[simp] theorem lk_int_list : List.lookup "list" kb_int = some false := by decide +kernel
@[simp] theorem le_int_PaintError : List.lookup 24 eb_int = some false := by decide +kernel
@[simp] theorem le_int_InvalidFrame : List.lookup 37 eb_int = some false := by decide +kernel
@[simp] theorem le_int_InvalidSetting : List.lookup 49 eb_int = some false := by decide +kernel
@[simp] theorem le_int_InvalidText : List.lookup 68 eb_int = some false := by decide +kernel
theorem bt_int : bootBuiltins "int" = some (.type "int") := by decide +kernel
def kb_list : List (String × Bool) := [("NoneType", false), ("bool", false), ("int", false), ("str", false), ("tuple", false), ("list", true)]
def cb_list : List (Addr × Bool) := []
def eb_list : List (Addr × Bool) := [(cPaintError, false), (cInvalidFrame, false), (cInvalidSetting, false), (cInvalidText, false)]
@[simp] theorem lk_list_NoneType : List.lookup "NoneType" kb_list = some false := by decide +kernel
@[simp] theorem lk_list_bool : List.lookup "bool" kb_list = some false := by decide +kernel
@[simp] theorem lk_list_int : List.lookup "int" kb_list = some false := by decide +kernel
@[simp] theorem lk_list_str : List.lookup "str" kb_list = some false := by decide +kernel
@[simp] theorem lk_list_tuple : List.lookup "tuple" kb_list = some false := by decide +kernel
@[simp] theorem lk_list_list : List.lookup "list" kb_list = some true := by decide +kernel
@[simp] theorem le_list_PaintError : List.lookup 24 eb_list = some false := by decide +kernel
@[simp] theorem le_list_InvalidFrame : List.lookup 37 eb_list = some false := by decide +kernel
@[simp] theorem le_list_InvalidSetting : List.lookup 49 eb_list = some false := by decide +kernel
@[simp] theorem le_list_InvalidText : List.lookup 68 eb_list = some false := by decide +kernel
theorem bt_list : bootBuiltins "list" = some (.type "list") := by decide +kernel
def kb_tuple : List (String × Bool) := [("NoneType", false), ("bool", false), ("int", false), ("str", false), ("tuple", true), ("list", false)]
def cb_tuple : List (Addr × Bool) := []
def eb_tuple : List (Addr × Bool) := [(cPaintError, false), (cInvalidFrame, false), (cInvalidSetting, false), (cInvalidText, false)]
@[simp] theorem lk_tuple_NoneType : List.lookup "NoneType" kb_tuple = some false := by decide +kernel
@[simp] theorem lk_tuple_bool : List.lookup "bool" kb_tuple = some false := by decide +kernel
@[simp] theorem lk_tuple_int : List.lookup "int" kb_tuple = some false := by decide +kernel
@[simp] theorem lk_tuple_str : List.lookup "str" kb_tuple = some false := by decide +kernel
@[simp] theorem lk_tuple_tuple : List.lookup "tuple" kb_tuple = some true := by decide +kernel
@[simp] theorem lk_tuple_list : List.lookup "list" kb_tuple = some false := by decide +kernel
@[simp] theorem le_tuple_PaintError : List.lookup 24 eb_tuple = some false := by decide +kernel
@[simp] theorem le_tuple_InvalidFrame : List.lookup 37 eb_tuple = some false := by decide +kernel
@[simp] theorem le_tuple_InvalidSetting : List.lookup 49 eb_tuple = some false := by decide +kernel
@[simp] theorem le_tuple_InvalidText : List.lookup 68 eb_tuple = some false := by decide +kernel
theorem bt_tuple : bootBuiltins "tuple" = some (.type "tuple") := by decide +kernel
def es_PaintError : List (Addr × Bool) := [(cPaintError, true), (cInvalidFrame, true), (cInvalidSetting, true), (cInvalidText, true)]
@[simp] theorem ls_PaintError_PaintError : List.lookup 24 es_PaintError = some true := by decide +kernel
@[simp] theorem ls_PaintError_InvalidFrame : List.lookup 37 es_PaintError = some true := by decide +kernel
@[simp] theorem ls_PaintError_InvalidSetting : List.lookup 49 es_PaintError = some true := by decide +kernel
@[simp] theorem ls_PaintError_InvalidText : List.lookup 68 es_PaintError = some true := by decide +kernel
def xs_place : List Addr := [cInvalidText]
def N__law_due : List Str := ["plane", "words", "word", "values"]
noncomputable def m__law_due : SM := sSeq (sSet (mLc false (mIt (mVar 1)) (gN 2) (bYes) (mApp (one intF) (aCons (mVar 2) (aNil))) [2]) 3)
  (sRet (mApp newTup (aCons (mSl false (mVar 3) (oNone) (oSome (mOp2 ixF (mVar 0) (mC (.int 0))))) (aCons (mSl false (mVar 3) (oSome (mOp2 ixF (mVar 0) (mC (.int 0)))) (oNone)) (aNil)))))
noncomputable def G__law_due : FM := runB 4 m__law_due
def N__law_number : List Str := ["word", "digits", "sign"]
noncomputable def m__law_number : SM := sSeq (sSet (mSl false (mVar 0) (oSome (mApp (one intF) (aCons (mOp2 eqF (mSl false (mVar 0) (oNone) (oSome (mC (.int 1)))) (mC (.str "-"))) (aNil)))) (oNone)) 1)
  (sSeq (sIf (bOr (bVal (mOp2 eqF (mVar 1) (mC (.str "")))) (bOr (bVal (mOp2 gtF (mApp (one lenF) (aCons (mVar 1) (aNil))) (mC (.int 9)))) (bVal (mOp2 neF (mLc false (mItS (mVar 1)) (gN 2) (bVal (mOp2 ninF (mVar 2) (mC (.str "0123456789")))) (mVar 2) [2]) (mApp (newL false) (aNil)))))) (sRet (mC .non)) (sNx))
  (sRet (mIf (bAnd (bVal (mOp2 eqF (mSl false (mVar 1) (oNone) (oSome (mC (.int 1)))) (mC (.str "0")))) (bVal (mOp2 neF (mVar 0) (mC (.str "0"))))) (mC .non) (mApp (one intF) (aCons (mVar 0) (aNil))))))
noncomputable def G__law_number : FM := runB 3 m__law_number
def N__law_place : List Str := ["plane", "words", "many", "at"]
noncomputable def m__law_place : SM := sSeq (sSet (mOp2 (addF false) (mOp2 ixF (mVar 0) (mC (.int 0))) (mOp2 ixF (mVar 0) (mC (.int 1)))) 2)
  (sSeq (sFor (mItA rng1F (aCons (mApp (one lenF) (aCons (mVar 1) (aNil))) (aNil))) (gN 3) (sIf (bOr (bVal (mOp2 geF (mVar 3) (mVar 2))) (bVal (mOp2 isNF (mApp (argN 1 G__law_number) (aCons (mOp2 ixF (mVar 1) (mVar 3)) (aNil))) (mC .non)))) (sRet (mVar 3)) (sNx)))
  (sRet (mIf (bVal (mOp2 eqF (mApp (one lenF) (aCons (mVar 1) (aNil))) (mVar 2))) (mC .non) (mApp (one lenF) (aCons (mVar 1) (aNil))))))
noncomputable def G__law_place : FM := runB 4 m__law_place
def N_is_whole : List Str := ["value", "low", "high"]
noncomputable def m_is_whole : SM := sRet (mAnd (mOp1 (isF kb_int cb_int eb_int) (mVar 0)) (mAnd (mNot (mOp1 (isF kb_bool cb_bool eb_bool) (mVar 0))) (mChain leF leF (mVar 1) (mVar 0) (mVar 2))))
noncomputable def G_is_whole : FM := runB 3 m_is_whole
def N_is_frame : List Str := ["value", "part"]
noncomputable def m_is_frame : SM := sSeq (sIf (bOr (bNot (bVal (mOp1 (isF kb_tuple cb_tuple eb_tuple) (mVar 0)))) (bVal (mOp2 neF (mApp (one lenF) (aCons (mVar 0) (aNil))) (mC (.int 2))))) (sRet (mC (.bl false))) (sNx))
  (sRet (mApp (one allF) (aCons (mLc false (mIt (mVar 0)) (gN 1) (bYes) (mApp (argN 3 G_is_whole) (aCons (mVar 1) (aCons (mC (.int 1)) (aCons (mC (.int 3)) (aNil))))) [1]) (aNil))))
noncomputable def G_is_frame : FM := runB 2 m_is_frame
def N_need_frame : List Str := ["frame"]
noncomputable def m_need_frame : SM := sIf (bNot (bVal (mApp (argN 1 G_is_frame) (aCons (mVar 0) (aNil))))) (sRaise cInvalidFrame) (sNx)
noncomputable def G_need_frame : FM := runB 1 m_need_frame
def N_whole_of : List Str := ["word", "digits", "sign"]
noncomputable def m_whole_of : SM := sSeq (sSet (mMtS rprefF (mVar 0) (aCons (mC (.str "-")) (aNil))) 1)
  (sSeq (sIf (bOr (bVal (mOp2 eqF (mVar 1) (mC (.str "")))) (bOr (bVal (mOp2 gtF (mApp (one lenF) (aCons (mVar 1) (aNil))) (mC (.int 9)))) (bNot (bVal (mApp (one allF) (aCons (mLc false (mItS (mVar 1)) (gN 2) (bYes) (mOp2 inF (mVar 2) (mC (.str "0123456789"))) [2]) (aNil))))))) (sRet (mC .non)) (sNx))
  (sRet (mIf (bVal (mOp2 eqF (mApp (one strF) (aCons (mApp (one intF) (aCons (mVar 0) (aNil))) (aNil))) (mVar 0))) (mApp (one intF) (aCons (mVar 0) (aNil))) (mC .non))))
noncomputable def G_whole_of : FM := runB 3 m_whole_of
def N_word_at : List Str := ["words", "at"]
noncomputable def m_word_at : SM := sSeq (sIf (bVal (mOp2 geF (mVar 1) (mApp (one lenF) (aCons (mVar 0) (aNil))))) (sRaiseF cInvalidText "place" (mApp (one lenF) (aCons (mVar 0) (aNil)))) (sNx))
  (sRet (mOp2 ixF (mVar 0) (mVar 1)))
noncomputable def G_word_at : FM := runB 2 m_word_at
def N_read_setting : List Str := ["frame", "text", "words", "found", "at", "value"]
noncomputable def m_read_setting : SM := sSeq (sExp (mApp (argN 1 G_need_frame) (aCons (mVar 0) (aNil))))
  (sSeq (sPar 2 3 (aCons (mMtS (splitF false) (mVar 1) (aCons (mC (.str " ")) (aNil))) (aCons (mApp (newL true) (aNil)) aNil)))
  (sSeq (sFor (mItA rng1F (aCons (mOp2 (addF false) (mOp2 ixF (mVar 0) (mC (.int 0))) (mOp2 ixF (mVar 0) (mC (.int 1)))) (aNil))) (gN 4) (sSeq (sSet (mApp (argN 1 G_whole_of) (aCons (mApp (argN 2 G_word_at) (aCons (mVar 2) (aCons (mVar 4) (aNil)))) (aNil))) 5)
  (sSeq (sIf (bVal (mOp2 isNF (mVar 5) (mC .non))) (sRaiseF cInvalidText "place" (mVar 4)) (sNx))
  (sExp (mMtL appF (mVar 3) (aCons (mVar 5) (aNil)))))))
  (sSeq (sIf (bVal (mOp2 gtF (mApp (one lenF) (aCons (mVar 2) (aNil))) (mApp (one lenF) (aCons (mVar 3) (aNil))))) (sRaiseF cInvalidText "place" (mApp (one lenF) (aCons (mVar 3) (aNil)))) (sNx))
  (sRet (mApp newTup (aCons (mSl true (mVar 3) (oNone) (oSome (mOp2 ixF (mVar 0) (mC (.int 0))))) (aCons (mSl true (mVar 3) (oSome (mOp2 ixF (mVar 0) (mC (.int 0)))) (oNone)) (aNil))))))))
noncomputable def G_read_setting : FM := runB 6 m_read_setting
def N__law_right : List Str := ["plane", "told", "words", "place", "found", "e"]
noncomputable def m__law_right : SM := sSeq (sSet (mMtS (splitF false) (mVar 1) (aCons (mC (.str " ")) (aNil))) 2)
  (sSeq (sSet (mApp (argN 2 G__law_place) (aCons (mVar 0) (aCons (mVar 2) (aNil)))) 3)
  (sSeq (sTry es_PaintError 5 (sSet (mVar 5) 4) (sSet (mApp (argN 2 G_read_setting) (aCons (mVar 0) (aCons (mVar 1) (aNil)))) 4))
  (sSeq (sIf (bVal (mOp2 isNF (mVar 3) (mC .non))) (sRet (mOp2 eqF (mApp (one repF) (aCons (mVar 4) (aNil))) (mApp (one repF) (aCons (mApp (argN 2 G__law_due) (aCons (mVar 0) (aCons (mVar 2) (aNil)))) (aNil))))) (sNx))
  (sSeq (sIf (bOr (bNot (bVal (mOp1 (isF kb_InvalidText cb_InvalidText eb_InvalidText) (mVar 4)))) (bNot (bVal (mOp1 (isF kb_ValueError cb_ValueError eb_ValueError) (mVar 4))))) (sRet (mC (.bl false))) (sNx))
  (sSeq (sIf (bOr (bVal (mOp1 (isF kb_InvalidSetting cb_InvalidSetting eb_InvalidSetting) (mVar 4))) (bVal (mOp1 (isF kb_InvalidFrame cb_InvalidFrame eb_InvalidFrame) (mVar 4)))) (sRet (mC (.bl false))) (sNx))
  (sRet (mOp2 eqF (mApp (one repF) (aCons (mOp1 (xfdF xs_place "place") (mVar 4)) (aNil))) (mApp (one repF) (aCons (mVar 3) (aNil))))))))))
noncomputable def G__law_right : FM := runB 6 m__law_right
def N_is_number : List Str := ["value"]
noncomputable def m_is_number : SM := sRet (mAnd (mOp1 (isF kb_int cb_int eb_int) (mVar 0)) (mNot (mOp1 (isF kb_bool cb_bool eb_bool) (mVar 0))))
noncomputable def G_is_number : FM := runB 1 m_is_number
def N_are_values : List Str := ["value", "many", "part"]
noncomputable def m_are_values : SM := sRet (mAnd (mOp1 (isF kb_list cb_list eb_list) (mVar 0)) (mAnd (mOp2 eqF (mApp (one lenF) (aCons (mVar 0) (aNil))) (mVar 1)) (mApp (one allF) (aCons (mLc false (mIt (mVar 0)) (gN 2) (bYes) (mApp (argN 1 G_is_number) (aCons (mVar 2) (aNil))) [2]) (aNil)))))
noncomputable def G_are_values : FM := runB 3 m_are_values
def N_fits_setting : List Str := ["frame", "value"]
noncomputable def m_fits_setting : SM := sSeq (sIf (bOr (bNot (bVal (mOp1 (isF kb_tuple cb_tuple eb_tuple) (mVar 1)))) (bVal (mOp2 neF (mApp (one lenF) (aCons (mVar 1) (aNil))) (mC (.int 2))))) (sRet (mC (.bl false))) (sNx))
  (sRet (mAnd (mApp (argN 2 G_are_values) (aCons (mOp2 ixF (mVar 1) (mC (.int 0))) (aCons (mOp2 ixF (mVar 0) (mC (.int 0))) (aNil)))) (mApp (argN 2 G_are_values) (aCons (mOp2 ixF (mVar 1) (mC (.int 1))) (aCons (mOp2 ixF (mVar 0) (mC (.int 1))) (aNil))))))
noncomputable def G_fits_setting : FM := runB 2 m_fits_setting
def N_need_setting : List Str := ["frame", "setting"]
noncomputable def m_need_setting : SM := sIf (bNot (bVal (mApp (argN 2 G_fits_setting) (aCons (mVar 0) (aCons (mVar 1) (aNil)))))) (sRaise cInvalidSetting) (sNx)
noncomputable def G_need_setting : FM := runB 2 m_need_setting
def N_write_setting : List Str := ["frame", "setting", "value"]
noncomputable def m_write_setting : SM := sSeq (sExp (mApp (argN 1 G_need_frame) (aCons (mVar 0) (aNil))))
  (sSeq (sExp (mApp (argN 2 G_need_setting) (aCons (mVar 0) (aCons (mVar 1) (aNil)))))
  (sRet (mMtS joinF (mC (.str " ")) (aCons (mLc false (mIt (mOp2 (addF false) (mOp2 ixF (mVar 1) (mC (.int 0))) (mOp2 ixF (mVar 1) (mC (.int 1))))) (gN 2) (bYes) (mApp (one strF) (aCons (mVar 2) (aNil))) [2]) (aNil)))))
noncomputable def G_write_setting : FM := runB 3 m_write_setting
def N__law_back_right : List Str := ["plane", "poise", "value", "told", "kept", "written", "found", "values"]
noncomputable def m__law_back_right : SM := sSeq (sSet (mMtS joinF (mC (.str " ")) (aCons (mLc false (mIt (mOp2 (addF false) (mOp2 ixF (mVar 1) (mC (.int 0))) (mOp2 ixF (mVar 1) (mC (.int 1))))) (gN 2) (bYes) (mApp (one strF) (aCons (mVar 2) (aNil))) [2]) (aNil))) 3)
  (sSeq (sSet (mApp (one repF) (aCons (mVar 1) (aNil))) 4)
  (sSeq (sSet (mApp (newL false) (aCons (mApp (argN 2 G_write_setting) (aCons (mVar 0) (aCons (mVar 1) (aNil)))) (aCons (mApp (fun ds => G_write_setting (permD [1, 0] ds)) (aCons (mVar 1) (aCons (mVar 0) (aNil)))) (aNil)))) 5)
  (sSeq (sIf (bOr (bVal (mOp2 neF (mVar 5) (mApp (newL false) (aCons (mVar 3) (aCons (mVar 3) (aNil)))))) (bVal (mOp2 neF (mApp (one repF) (aCons (mVar 1) (aNil))) (mVar 4)))) (sRet (mC (.bl false))) (sNx))
  (sSeq (sIf (bVal (mOp2 neF (mLc false (mIt (mOp2 (addF false) (mOp2 ixF (mVar 1) (mC (.int 0))) (mOp2 ixF (mVar 1) (mC (.int 1))))) (gN 2) (bVal (mOp2 geF (mApp (one absF) (aCons (mVar 2) (aNil))) (mOp2 powF (mC (.int 10)) (mC (.int 9))))) (mVar 2) [2]) (mApp (newL false) (aNil)))) (sRet (mApp (argN 2 G__law_right) (aCons (mVar 0) (aCons (mVar 3) (aNil))))) (sNx))
  (sSeq (sSet (mApp (argN 2 G_read_setting) (aCons (mVar 0) (aCons (mVar 3) (aNil)))) 6)
  (sSeq (sIf (bOr (bVal (mOp2 neF (mApp (one repF) (aCons (mVar 6) (aNil))) (mVar 4))) (bVal (mOp2 neF (mApp (one repF) (aCons (mApp (fun ds => G_read_setting (permD [1, 0] ds)) (aCons (mVar 3) (aCons (mVar 0) (aNil)))) (aNil))) (mVar 4)))) (sRet (mC (.bl false))) (sNx))
  (sSeq (sFor (mIt (mVar 6)) (gN 7) (sExp (mMtL appF (mVar 7) (aCons (mC (.int 0)) (aNil)))))
  (sSeq (sIf (bVal (mOp2 neF (mLc false (mIt (mVar 6)) (gN 7) (bYes) (mApp (one lenF) (aCons (mVar 7) (aNil))) [7]) (mApp (newL false) (aCons (mOp2 (addF false) (mOp2 ixF (mVar 0) (mC (.int 0))) (mC (.int 1))) (aCons (mOp2 (addF false) (mOp2 ixF (mVar 0) (mC (.int 1))) (mC (.int 1))) (aNil)))))) (sRet (mC (.bl false))) (sNx))
  (sRet (mOp2 eqF (mApp (one repF) (aCons (mApp (argN 2 G_read_setting) (aCons (mVar 0) (aCons (mVar 3) (aNil)))) (aNil))) (mVar 4)))))))))))
noncomputable def G__law_back_right : FM := runB 8 m__law_back_right
def N__law_bag : List Str := ["cell", "rest"]
noncomputable def m__law_bag : SM := sSeq (sSet (mC (.int 0)) 1)
  (sSeq (sIf (bVal (mOp2 geF (mVar 0) (mOp2 powF (mC (.int 10)) (mC (.int 18))))) (sSet (mOp2 subF (mVar 0) (mOp2 powF (mC (.int 10)) (mC (.int 18)))) 1) (sNx))
  (sRet (mApp (newL true) (aCons (mVar 1) (aCons (mOp2 modF (mApp (one intF) (aCons (mVar 0) (aNil))) (mC (.int 1000000000000000003))) (aCons (mC (.int 0)) (aNil)))))))
noncomputable def G__law_bag : FM := runB 2 m__law_bag
def N__law_draw : List Str := ["bag", "many", "digit", "turn", "mixed"]
noncomputable def m__law_draw : SM := sSeq (sIf (bVal (mOp2 gtF (mOp2 ixF (mVar 0) (mC (.int 0))) (mC (.int 0)))) (sSeq (sSet (mOp2 modF (mApp (one intF) (aCons (mOp2 ixF (mVar 0) (mC (.int 0))) (aNil))) (mVar 1)) 2)
  (sSeq (sPut (mVar 0) (mC (.int 0)) (mOp2 fdivF (mOp2 ixF (mVar 0) (mC (.int 0))) (mVar 1)))
  (sRet (mVar 2)))) (sNx))
  (sSeq (sPut (mVar 0) (mC (.int 2)) (mOp2 (addF false) (mOp2 ixF (mVar 0) (mC (.int 2))) (mC (.int 1))))
  (sSeq (sSet (mOp2 ixF (mVar 0) (mC (.int 2))) 3)
  (sSeq (sSet (mOp2 (addF false) (mOp2 mulF (mOp2 (addF false) (mOp2 ixF (mVar 0) (mC (.int 1))) (mC (.int 7))) (mOp2 (addF false) (mOp2 (addF false) (mOp2 mulF (mOp2 mulF (mC (.int 31)) (mVar 3)) (mVar 3)) (mOp2 mulF (mC (.int 104729)) (mVar 3))) (mC (.int 13)))) (mOp2 mulF (mC (.int 17)) (mVar 3))) 4)
  (sSeq (sSet (mOp2 fdivF (mOp2 modF (mApp (one intF) (aCons (mOp2 (addF false) (mOp2 mulF (mVar 4) (mVar 4)) (mOp2 mulF (mC (.int 999983)) (mVar 4))) (aNil))) (mC (.int 1000000000000000009))) (mC (.int 1009))) 4)
  (sRet (mOp2 modF (mOp2 fdivF (mOp2 modF (mApp (one intF) (aCons (mOp2 (addF false) (mOp2 (addF false) (mOp2 mulF (mVar 4) (mVar 4)) (mOp2 mulF (mC (.int 65537)) (mVar 4))) (mVar 3)) (aNil))) (mC (.int 2147483629))) (mC (.int 16))) (mVar 1)))))))
noncomputable def G__law_draw : FM := runB 5 m__law_draw
def N__law_changed : List Str := ["bag", "words", "odd", "put", "way", "at", "spot", "sign", "bent"]
noncomputable def m__law_changed : SM := sSeq (sSet (mApp (newL false) (aCons (mC (.str "0")) (aCons (mC (.str "-0")) (aCons (mC (.str "00")) (aCons (mC (.str "-1")) (aCons (mC (.str "+1")) (aCons (mC (.str "")) (aCons (mC (.str "1_0")) (aCons (mC (.str "x")) (aCons (mC (.str "123456789")) (aCons (mC (.str "-123456789")) (aCons (mC (.str "1234567890")) (aNil))))))))))))) 2)
  (sSeq (sSet (mOp2 (addF false) (mVar 2) (mApp (newL false) (aCons (mC (.str "-1234567890")) (aCons (mC (.str "0.0")) (aCons (mC (.str "-")) (aNil)))))) 2)
  (sSeq (sSet (mApp (newL false) (aCons (mOp2 ixF (mVar 2) (mApp (argN 2 G__law_draw) (aCons (mVar 0) (aCons (mApp (one lenF) (aCons (mVar 2) (aNil))) (aNil))))) (aNil))) 3)
  (sSeq (sPar 4 5 (aCons (mApp (argN 2 G__law_draw) (aCons (mVar 0) (aCons (mC (.int 6)) (aNil)))) (aCons (mApp (argN 2 G__law_draw) (aCons (mVar 0) (aCons (mOp2 (addF false) (mApp (one lenF) (aCons (mVar 1) (aNil))) (mC (.int 1))) (aNil)))) aNil)))
  (sSeq (sIf (bVal (mOp2 ltF (mVar 4) (mC (.int 2)))) (sRet (mOp2 (addF false) (mOp2 (addF false) (mSl false (mVar 1) (oNone) (oSome (mVar 5))) (mVar 3)) (mSl false (mVar 1) (oSome (mOp2 (addF false) (mVar 5) (mVar 4))) (oNone)))) (sNx))
  (sSeq (sIf (bVal (mOp2 eqF (mVar 4) (mC (.int 2)))) (sRet (mOp2 (addF false) (mSl false (mVar 1) (oNone) (oSome (mVar 5))) (mSl false (mVar 1) (oSome (mOp2 (addF false) (mVar 5) (mC (.int 1)))) (oNone)))) (sNx))
  (sSeq (sIf (bVal (mOp2 eqF (mVar 4) (mC (.int 3)))) (sRet (mOp2 (addF false) (mOp2 (addF false) (mSl false (mVar 1) (oNone) (oSome (mVar 5))) (mSl false (mVar 1) (oSome (mVar 5)) (oSome (mOp2 (addF false) (mVar 5) (mC (.int 1)))))) (mSl false (mVar 1) (oSome (mVar 5)) (oNone)))) (sNx))
  (sSeq (sIf (bVal (mOp2 eqF (mVar 5) (mApp (one lenF) (aCons (mVar 1) (aNil))))) (sRet (mOp2 (addF false) (mVar 1) (mVar 3))) (sNx))
  (sSeq (sSet (mApp (argN 2 G__law_draw) (aCons (mVar 0) (aCons (mOp2 (addF false) (mApp (one lenF) (aCons (mOp2 ixF (mVar 1) (mVar 5)) (aNil))) (mC (.int 1))) (aNil)))) 6)
  (sSeq (sSet (mOp2 ixF (mApp (newL false) (aCons (mC (.str "-")) (aCons (mC (.str "0")) (aCons (mC (.str "9")) (aCons (mC (.str "_")) (aCons (mC (.str " ")) (aCons (mC (.str "")) (aCons (mC (.str "+")) (aCons (mC (.str "\n")) (aNil)))))))))) (mApp (argN 2 G__law_draw) (aCons (mVar 0) (aCons (mC (.int 8)) (aNil))))) 7)
  (sSeq (sSet (mOp2 (addF false) (mOp2 (addF false) (mSl false (mOp2 ixF (mVar 1) (mVar 5)) (oNone) (oSome (mVar 6))) (mVar 7)) (mSl false (mOp2 ixF (mVar 1) (mVar 5)) (oSome (mOp2 subF (mOp2 (addF false) (mVar 6) (mVar 4)) (mC (.int 4)))) (oNone))) 8)
  (sRet (mOp2 (addF false) (mOp2 (addF false) (mSl false (mVar 1) (oNone) (oSome (mVar 5))) (mApp (newL false) (aCons (mVar 8) (aNil)))) (mSl false (mVar 1) (oSome (mOp2 (addF false) (mVar 5) (mC (.int 1)))) (oNone))))))))))))))
noncomputable def G__law_changed : FM := runB 9 m__law_changed
def N__law_plane : List Str := ["bag"]
noncomputable def m__law_plane : SM := sRet (mApp newTup (aCons (mOp2 (addF false) (mC (.int 1)) (mApp (argN 2 G__law_draw) (aCons (mVar 0) (aCons (mC (.int 3)) (aNil))))) (aCons (mOp2 (addF false) (mC (.int 1)) (mApp (argN 2 G__law_draw) (aCons (mVar 0) (aCons (mC (.int 3)) (aNil))))) (aNil))))
noncomputable def G__law_plane : FM := runB 1 m__law_plane
def N_law : List Str := ["script", "cell", "bag", "plane", "k", "great", "turn", "many", "rows", "value", "words", "told", "bent"]
noncomputable def m_law : SM := sSeq (sFor (mIt (mOp2 (addF false) (mApp (newL false) (aCons (mC (.int 0)) (aNil))) (mSl false (mVar 0) (oNone) (oSome (mC (.int 12)))))) (gN 1) (sSeq (sSet (mApp (argN 1 G__law_bag) (aCons (mVar 1) (aNil))) 2)
  (sSeq (sSet (mApp (argN 1 G__law_plane) (aCons (mVar 2) (aNil))) 3)
  (sFor (mItA rng1F (aCons (mC (.int 4)) (aNil))) (gN 4) (sSeq (sSet (mOp2 ixF (mApp (newL false) (aCons (mC (.int 5)) (aCons (mOp2 powF (mC (.int 10)) (mC (.int 9))) (aCons (mOp2 powF (mC (.int 10)) (mC (.int 10))) (aCons (mOp2 powF (mC (.int 10)) (mC (.int 31))) (aNil)))))) (mApp (argN 2 G__law_draw) (aCons (mVar 2) (aCons (mC (.int 4)) (aNil))))) 5)
  (sSeq (sSet (mLc false (mIt (mVar 3)) (gN 7) (bYes) (mLc false (mItA rng1F (aCons (mVar 7) (aNil))) (gN 6) (bYes) (mOp2 (addF false) (mOp2 subF (mApp (argN 2 G__law_draw) (aCons (mVar 2) (aCons (mOp2 subF (mOp2 mulF (mC (.int 2)) (mVar 5)) (mC (.int 1))) (aNil)))) (mVar 5)) (mC (.int 1))) [6]) [7]) 8)
  (sSeq (sIf (bNot (bVal (mApp (argN 2 G__law_back_right) (aCons (mVar 3) (aCons (mApp newTup (aCons (mOp2 ixF (mVar 8) (mC (.int 0))) (aCons (mOp2 ixF (mVar 8) (mC (.int 1))) (aNil)))) (aNil)))))) (sRet (mC (.bl false))) (sNx))
  (sSeq (sSet (mLc false (mIt (mOp2 (addF false) (mOp2 ixF (mVar 8) (mC (.int 0))) (mOp2 ixF (mVar 8) (mC (.int 1))))) (gN 9) (bYes) (mApp (one strF) (aCons (mVar 9) (aNil))) [9]) 10)
  (sSeq (sFor (mItA rng1F (aCons (mOp2 (addF false) (mC (.int 1)) (mApp (argN 2 G__law_draw) (aCons (mVar 2) (aCons (mC (.int 2)) (aNil))))) (aNil))) (gN 6) (sSet (mApp (argN 2 G__law_changed) (aCons (mVar 2) (aCons (mVar 10) (aNil)))) 10))
  (sSeq (sSet (mMtS joinF (mC (.str " ")) (aCons (mVar 10) (aNil))) 11)
  (sSeq (sSet (mApp (newL false) (aCons (mOp2 (addF false) (mC (.str " ")) (mVar 11)) (aCons (mOp2 (addF false) (mVar 11) (mC (.str " "))) (aCons (mOp1 (replF " " "  ") (mVar 11)) (aCons (mOp2 (addF false) (mVar 11) (mC (.str "\n"))) (aCons (mOp1 (replF " " "\n") (mVar 11)) (aCons (mC (.str "")) (aNil)))))))) 12)
  (sSeq (sSet (mOp2 (addF false) (mVar 12) (mApp (newL false) (aCons (mOp2 (addF false) (mC (.str "\n")) (mVar 11)) (aCons (mOp1 (replF " " " \n") (mVar 11)) (aCons (mOp2 mulSF (mC (.str "1 ")) (mC (.int 1000))) (aNil)))))) 12)
  (sSeq (sIf (bOr (bNot (bVal (mApp (argN 2 G__law_right) (aCons (mVar 3) (aCons (mVar 11) (aNil)))))) (bNot (bVal (mApp (argN 2 G__law_right) (aCons (mVar 3) (aCons (mOp2 ixF (mVar 12) (mApp (argN 2 G__law_draw) (aCons (mVar 2) (aCons (mC (.int 9)) (aNil))))) (aNil))))))) (sRet (mC (.bl false))) (sNx))
  (sIf (bOr (bNot (bVal (mApp (argN 2 G__law_right) (aCons (mApp newTup (aCons (mC (.int 1)) (aCons (mC (.int 1)) (aNil)))) (aCons (mVar 11) (aNil)))))) (bNot (bVal (mApp (argN 2 G__law_right) (aCons (mVar 3) (aCons (mVar 11) (aNil))))))) (sRet (mC (.bl false))) (sNx)))))))))))))))
  (sRet (mC (.bl true)))
noncomputable def G_law : FM := runB 13 m_law
/-! ### what is known of the module -/
def clsBody : Stmt → List Stmt
  | .ClassDef (body := b) .. => b
  | _ => []
def imeth (i : Nat) : Stmt := ((clsBody (top i)).filter fun s => match s with
  | .FunctionDef (name := n) .. => n == "__init__"
  | _ => false).getD 0 (.Pass ⟨0, 0, 0, 0⟩)
structure Fx (K : PySem.W.Frag) (mg : Str → Option Value) : Prop where
  b_ValueError : mg "ValueError" = none
  b_abs : mg "abs" = none
  b_all : mg "all" = none
  b_bool : mg "bool" = none
  b_int : mg "int" = none
  b_isinstance : mg "isinstance" = none
  b_len : mg "len" = none
  b_list : mg "list" = none
  b_range : mg "range" = none
  b_repr : mg "repr" = none
  b_str : mg "str" = none
  b_tuple : mg "tuple" = none
  g_InvalidFrame : mg "InvalidFrame" = some (.ref cInvalidFrame)
  g_InvalidSetting : mg "InvalidSetting" = some (.ref cInvalidSetting)
  g_InvalidText : mg "InvalidText" = some (.ref cInvalidText)
  g_MOST_DIGITS : ∃ t, mg "MOST_DIGITS" = some (.int 9 t)
  g_MOST_UNKNOWN : ∃ t, mg "MOST_UNKNOWN" = some (.int 3 t)
  g_PaintError : mg "PaintError" = some (.ref cPaintError)
  f__law_due : mg "_law_due" = some (.ref (He.ga K "_law_due"))
  f__law_number : mg "_law_number" = some (.ref (He.ga K "_law_number"))
  f__law_place : mg "_law_place" = some (.ref (He.ga K "_law_place"))
  f_is_whole : mg "is_whole" = some (.ref (He.ga K "is_whole"))
  f_is_frame : mg "is_frame" = some (.ref (He.ga K "is_frame"))
  f_need_frame : mg "need_frame" = some (.ref (He.ga K "need_frame"))
  f_whole_of : mg "whole_of" = some (.ref (He.ga K "whole_of"))
  f_word_at : mg "word_at" = some (.ref (He.ga K "word_at"))
  f_read_setting : mg "read_setting" = some (.ref (He.ga K "read_setting"))
  f__law_right : mg "_law_right" = some (.ref (He.ga K "_law_right"))
  f_is_number : mg "is_number" = some (.ref (He.ga K "is_number"))
  f_are_values : mg "are_values" = some (.ref (He.ga K "are_values"))
  f_fits_setting : mg "fits_setting" = some (.ref (He.ga K "fits_setting"))
  f_need_setting : mg "need_setting" = some (.ref (He.ga K "need_setting"))
  f_write_setting : mg "write_setting" = some (.ref (He.ga K "write_setting"))
  f__law_back_right : mg "_law_back_right" = some (.ref (He.ga K "_law_back_right"))
  f__law_bag : mg "_law_bag" = some (.ref (He.ga K "_law_bag"))
  f__law_draw : mg "_law_draw" = some (.ref (He.ga K "_law_draw"))
  f__law_changed : mg "_law_changed" = some (.ref (He.ga K "_law_changed"))
  f__law_plane : mg "_law_plane" = some (.ref (He.ga K "_law_plane"))
  f_law : mg "law" = some (.ref (He.ga K "law"))
  d__law_due : FnP K "_law_due" 27
  d__law_number : FnP K "_law_number" 25
  d__law_place : FnP K "_law_place" 26
  d_is_whole : FnP K "is_whole" 7
  d_is_frame : FnP K "is_frame" 8
  d_need_frame : FnP K "need_frame" 9
  d_whole_of : FnP K "whole_of" 17
  d_word_at : FnP K "word_at" 18
  d_read_setting : FnP K "read_setting" 20
  d__law_right : FnP K "_law_right" 28
  d_is_number : FnP K "is_number" 11
  d_are_values : FnP K "are_values" 12
  d_fits_setting : FnP K "fits_setting" 13
  d_need_setting : FnP K "need_setting" 14
  d_write_setting : FnP K "write_setting" 19
  d__law_back_right : FnP K "_law_back_right" 30
  d__law_bag : FnP K "_law_bag" 22
  d__law_draw : FnP K "_law_draw" 23
  d__law_changed : FnP K "_law_changed" 29
  d__law_plane : FnP K "_law_plane" 24
  d_law : FnP K "law" 31
  is_InvalidFrame : IsOk K (.ref cInvalidFrame) kb_InvalidFrame cb_InvalidFrame eb_InvalidFrame
  is_InvalidSetting : IsOk K (.ref cInvalidSetting) kb_InvalidSetting cb_InvalidSetting eb_InvalidSetting
  is_InvalidText : IsOk K (.ref cInvalidText) kb_InvalidText cb_InvalidText eb_InvalidText
  is_ValueError : IsOk K (.type "ValueError") kb_ValueError cb_ValueError eb_ValueError
  is_bool : IsOk K (.type "bool") kb_bool cb_bool eb_bool
  is_int : IsOk K (.type "int") kb_int cb_int eb_int
  is_list : IsOk K (.type "list") kb_list cb_list eb_list
  is_tuple : IsOk K (.type "tuple") kb_tuple cb_tuple eb_tuple
  es_PaintError : ExmOk K (.ref cPaintError) es_PaintError
  r_InvalidFrame : ExcMk K cInvalidFrame
  r_InvalidSetting : ExcMk K cInvalidSetting
  x_place : XfdOk K xs_place "place"
  i_InvalidText : IniC K cInvalidText cPaintError (He.ma K cInvalidText "__init__") "place"
  di_InvalidText : ∃ fd, FunD K "__init__" "InvalidText.__init__" (defArgs (imeth 4)) (defBody (imeth 4)) (defScope (imeth 4)) [] [] (He.ma K cInvalidText "__init__") fd
section
variable {P : Program} {w : World} {K : PySem.W.Frag} {mg : Str → Option Value} {base : Heap}
theorem si_InvalidText : FnScope ["self", "place"] ["self", "place"] (defScope (imeth 4)) := ⟨rfl, rfl, rfl, by decide +kernel, rfl, by decide +kernel, by decide +kernel⟩
theorem ini_InvalidText (fx : Fx K mg) : IniF P w K mg base 1 cInvalidText cPaintError "place" := by
  obtain ⟨fd, F⟩ := fx.di_InvalidText
  refine ⟨_, fd, fx.i_InvalidText, init_ok F si_InvalidText fx.g_PaintError fx.i_InvalidText.b fx.i_InvalidText.T fx.i_InvalidText.no fun cdv A outer s H E => ?_, F.bindsN fun _ _ _ _ _ _ us hl => match us, hl with | [_, _], _ => rfl⟩
  exact pss_cons (ps_expr (pe_binit rfl fx.g_PaintError fx.i_InvalidText.b (pa_cons (pe_var (i := 0) rfl (Or.inl rfl)) (pa_cons pe_str pa_nil)))) (pss_one (ps_ost (pe_var (i := 0) rfl (Or.inl rfl)) (pe_var (i := 1) rfl (Or.inl rfl))))
theorem sc__law_due : FnScope N__law_due ["plane", "words"] (defScope (top 27)) := ⟨rfl, rfl, rfl, by decide +kernel, rfl, by decide +kernel, by decide +kernel⟩
theorem fn__law_due (fx : Fx K mg) {fd : FuncData} (F : FunD K "_law_due" "_law_due" (defArgs (top 27)) (defBody (top 27)) (defScope (top 27)) [] [] (He.ga K "_law_due") fd) : FnG P w K mg base 1 (He.ga K "_law_due") fd ["plane", "words"] (spM K 2 G__law_due) :=
  fnG_body (k := 0) (N := N__law_due) (ps := ["plane", "words"]) (m := m__law_due) F sc__law_due fun cdv A outer s H E B hr =>
  (pms_cons (pm_setlc 3 (own := [("word", 2)]) false rfl sc__law_due.nd (pmi_seq (pm_var 1)) (blkOk_by (by rfl)) (fun _ _ _ _ _ => (pmg_name 2 sc__law_due.nd)) (fun _ _ _ _ _ => pmts_nil) (fun _ _ _ _ _ => (pm_int_ fx.b_int (pma_cons (pm_var 2) pma_nil))))
  (pms_one (pm_ret (pm_tup (pma_cons (pm_sl false (pm_var 3) pmo_none (pmo_some (pm_ix (pm_var 0) pm_int))) (pma_cons (pm_sl false (pm_var 3) (pmo_some (pm_ix (pm_var 0) pm_int)) pmo_none) pma_nil))))))
theorem c__law_due (fx : Fx K mg) : Cal P w K mg base 1 "_law_due" 2 G__law_due := by
  obtain ⟨fd, F⟩ := fx.d__law_due
  exact ⟨_, fd, ["plane", "words"], rfl, fn__law_due fx F, fx.f__law_due, F.kp, F.bindsN fun _ _ _ _ _ _ us hl => match us, hl with | [_, _], _ => rfl⟩
theorem sc__law_number : FnScope N__law_number ["word"] (defScope (top 25)) := ⟨rfl, rfl, rfl, by decide +kernel, rfl, by decide +kernel, by decide +kernel⟩
theorem fn__law_number (fx : Fx K mg) {fd : FuncData} (F : FunD K "_law_number" "_law_number" (defArgs (top 25)) (defBody (top 25)) (defScope (top 25)) [] [] (He.ga K "_law_number") fd) : FnG P w K mg base 1 (He.ga K "_law_number") fd ["word"] (spM K 1 G__law_number) :=
  fnG_body (k := 0) (N := N__law_number) (ps := ["word"]) (m := m__law_number) F sc__law_number fun cdv A outer s H E B hr =>
  (pms_cons (pm_set 1 sc__law_number.nd (pm_sl false (pm_var 0) (pmo_some (pm_int_ fx.b_int (pma_cons (pm_eq hr.room (pm_sl false (pm_var 0) pmo_none (pmo_some pm_int)) pm_str) pma_nil))) pmo_none))
  (pms_cons (pm_ifS (pmw_or (pmt_eq hr.room (pm_var 1) pm_str) (pmw_or (pmt_gt (pm_len fx.b_len (pma_cons (pm_var 1) pma_nil)) pm_int) (pmw_or1 (pmt_ne hr.room (pm_lc (own := [("sign", 2)]) false rfl sc__law_number.nd (pmi_sgn (pm_var 1)) (blkOk_by (by rfl)) (fun _ _ _ _ _ => (pmg_name 2 sc__law_number.nd)) (fun _ _ _ _ _ => (pmts_one (pmt_nin (pm_var 2) pm_str))) (fun _ _ _ _ _ => (pm_var 2))) (pm_lst false pma_nil))))).pt (pms_one (pm_ret pm_non)) pms_nil)
  (pms_one (pm_ret (pm_if (pmw_and (pmt_eq hr.room (pm_sl false (pm_var 1) pmo_none (pmo_some pm_int)) pm_str) (pmw_and1 (pmt_ne hr.room (pm_var 0) pm_str))).pt pm_non (pm_int_ fx.b_int (pma_cons (pm_var 0) pma_nil)))))))
theorem c__law_number (fx : Fx K mg) : Cal P w K mg base 1 "_law_number" 1 G__law_number := by
  obtain ⟨fd, F⟩ := fx.d__law_number
  exact ⟨_, fd, ["word"], rfl, fn__law_number fx F, fx.f__law_number, F.kp, F.bindsN fun _ _ _ _ _ _ us hl => match us, hl with | [_], _ => rfl⟩
theorem sc__law_place : FnScope N__law_place ["plane", "words"] (defScope (top 26)) := ⟨rfl, rfl, rfl, by decide +kernel, rfl, by decide +kernel, by decide +kernel⟩
theorem fn__law_place (fx : Fx K mg) {fd : FuncData} (F : FunD K "_law_place" "_law_place" (defArgs (top 26)) (defBody (top 26)) (defScope (top 26)) [] [] (He.ga K "_law_place") fd) : FnG P w K mg base 2 (He.ga K "_law_place") fd ["plane", "words"] (spM K 2 G__law_place) :=
  fnG_body (k := 1) (N := N__law_place) (ps := ["plane", "words"]) (m := m__law_place) F sc__law_place fun cdv A outer s H E B hr =>
  (pms_cons (pm_set 2 sc__law_place.nd (pm_add false (pm_ix (pm_var 0) pm_int) (pm_ix (pm_var 0) pm_int)))
  (pms_cons (pm_for passB rfl (pmi_rng1 fx.b_range (pma_cons (pm_len fx.b_len (pma_cons (pm_var 1) pma_nil)) pma_nil)) (pmg_name 3 sc__law_place.nd) (fun _ => (pms_one (pm_ifS (pmw_or (pmt_ge (pm_var 3) (pm_var 2)) (pmw_or1 (pmt_isN (pm_call ((c__law_number fx).mono (by decide)) hr takesB (pma_cons (pm_ix (pm_var 1) (pm_var 3)) pma_nil)) pm_non))).pt (pms_one (pm_ret (pm_var 3))) pms_nil))))
  (pms_one (pm_ret (pm_if (pmt_eq hr.room (pm_len fx.b_len (pma_cons (pm_var 1) pma_nil)) (pm_var 2)) pm_non (pm_len fx.b_len (pma_cons (pm_var 1) pma_nil)))))))
theorem c__law_place (fx : Fx K mg) : Cal P w K mg base 2 "_law_place" 2 G__law_place := by
  obtain ⟨fd, F⟩ := fx.d__law_place
  exact ⟨_, fd, ["plane", "words"], rfl, fn__law_place fx F, fx.f__law_place, F.kp, F.bindsN fun _ _ _ _ _ _ us hl => match us, hl with | [_, _], _ => rfl⟩
theorem sc_is_whole : FnScope N_is_whole ["value", "low", "high"] (defScope (top 7)) := ⟨rfl, rfl, rfl, by decide +kernel, rfl, by decide +kernel, by decide +kernel⟩
theorem fn_is_whole (fx : Fx K mg) {fd : FuncData} (F : FunD K "is_whole" "is_whole" (defArgs (top 7)) (defBody (top 7)) (defScope (top 7)) [] [] (He.ga K "is_whole") fd) : FnG P w K mg base 1 (He.ga K "is_whole") fd ["value", "low", "high"] (spM K 3 G_is_whole) :=
  fnG_body (k := 0) (N := N_is_whole) (ps := ["value", "low", "high"]) (m := m_is_whole) F sc_is_whole fun cdv A outer s H E B hr =>
  (pms_one (pm_ret (pm_and (pm_isT fx.is_int fx.b_int fx.b_isinstance bt_int (pm_var 0)) (pm_and (pm_not (pm_isT fx.is_bool fx.b_bool fx.b_isinstance bt_bool (pm_var 0))) (pm_one (pm_lele (pm_var 1) (pm_var 0) (pm_var 2)))))))
theorem c_is_whole (fx : Fx K mg) : Cal P w K mg base 1 "is_whole" 3 G_is_whole := by
  obtain ⟨fd, F⟩ := fx.d_is_whole
  exact ⟨_, fd, ["value", "low", "high"], rfl, fn_is_whole fx F, fx.f_is_whole, F.kp, F.bindsN fun _ _ _ _ _ _ us hl => match us, hl with | [_, _, _], _ => rfl⟩
theorem sc_is_frame : FnScope N_is_frame ["value"] (defScope (top 8)) := ⟨rfl, rfl, rfl, by decide +kernel, rfl, by decide +kernel, by decide +kernel⟩
theorem fn_is_frame (fx : Fx K mg) {fd : FuncData} (F : FunD K "is_frame" "is_frame" (defArgs (top 8)) (defBody (top 8)) (defScope (top 8)) [] [] (He.ga K "is_frame") fd) : FnG P w K mg base 2 (He.ga K "is_frame") fd ["value"] (spM K 1 G_is_frame) :=
  fnG_body (k := 1) (N := N_is_frame) (ps := ["value"]) (m := m_is_frame) F sc_is_frame fun cdv A outer s H E B hr =>
  (pms_cons (pm_ifS (pmw_or (pmt_not (pmt_val (pm_isT fx.is_tuple fx.b_tuple fx.b_isinstance bt_tuple (pm_var 0)))) (pmw_or1 (pmt_ne hr.room (pm_len fx.b_len (pma_cons (pm_var 0) pma_nil)) pm_int))).pt (pms_one (pm_ret pm_bl)) pms_nil)
  (pms_one (pm_ret (pm_all rfl fx.b_all (pma_cons (pm_lc (own := [("part", 1)]) false rfl sc_is_frame.nd (pmi_seq (pm_var 0)) (blkOk_by (by rfl)) (fun _ _ _ _ _ => (pmg_name 1 sc_is_frame.nd)) (fun _ _ _ _ _ => pmts_nil) (fun _ _ _ _ _ => (pm_call ((c_is_whole fx).mono (by decide)) hr takesN (pma_cons (pm_var 1) (pma_cons pm_int (pma_cons (pm_gint fx.g_MOST_UNKNOWN) pma_nil)))))) pma_nil)))))
theorem c_is_frame (fx : Fx K mg) : Cal P w K mg base 2 "is_frame" 1 G_is_frame := by
  obtain ⟨fd, F⟩ := fx.d_is_frame
  exact ⟨_, fd, ["value"], rfl, fn_is_frame fx F, fx.f_is_frame, F.kp, F.bindsN fun _ _ _ _ _ _ us hl => match us, hl with | [_], _ => rfl⟩
theorem sc_need_frame : FnScope N_need_frame ["frame"] (defScope (top 9)) := ⟨rfl, rfl, rfl, by decide +kernel, rfl, by decide +kernel, by decide +kernel⟩
theorem fn_need_frame (fx : Fx K mg) {fd : FuncData} (F : FunD K "need_frame" "need_frame" (defArgs (top 9)) (defBody (top 9)) (defScope (top 9)) [] [] (He.ga K "need_frame") fd) : FnG P w K mg base 3 (He.ga K "need_frame") fd ["frame"] (spM K 1 G_need_frame) :=
  fnG_body (k := 2) (N := N_need_frame) (ps := ["frame"]) (m := m_need_frame) F sc_need_frame fun cdv A outer s H E B hr =>
  (pms_one (pm_ifS (pmt_not (pmt_val (pm_call ((c_is_frame fx).mono (by decide)) hr takesB (pma_cons (pm_var 0) pma_nil)))) (pms_one (pm_raiseO rfl takesB fx.r_InvalidFrame fx.g_InvalidFrame)) pms_nil))
theorem c_need_frame (fx : Fx K mg) : Cal P w K mg base 3 "need_frame" 1 G_need_frame := by
  obtain ⟨fd, F⟩ := fx.d_need_frame
  exact ⟨_, fd, ["frame"], rfl, fn_need_frame fx F, fx.f_need_frame, F.kp, F.bindsN fun _ _ _ _ _ _ us hl => match us, hl with | [_], _ => rfl⟩
theorem sc_whole_of : FnScope N_whole_of ["word"] (defScope (top 17)) := ⟨rfl, rfl, rfl, by decide +kernel, rfl, by decide +kernel, by decide +kernel⟩
theorem fn_whole_of (fx : Fx K mg) {fd : FuncData} (F : FunD K "whole_of" "whole_of" (defArgs (top 17)) (defBody (top 17)) (defScope (top 17)) [] [] (He.ga K "whole_of") fd) : FnG P w K mg base 1 (He.ga K "whole_of") fd ["word"] (spM K 1 G_whole_of) :=
  fnG_body (k := 0) (N := N_whole_of) (ps := ["word"]) (m := m_whole_of) F sc_whole_of fun cdv A outer s H E B hr =>
  (pms_cons (pm_set 1 sc_whole_of.nd (pm_rpref (pm_var 0) (pma_cons pm_str pma_nil)))
  (pms_cons (pm_ifS (pmw_or (pmt_eq hr.room (pm_var 1) pm_str) (pmw_or (pmt_gt (pm_len fx.b_len (pma_cons (pm_var 1) pma_nil)) (pm_gint fx.g_MOST_DIGITS)) (pmw_or1 (pmt_not (pmt_val (pm_all rfl fx.b_all (pma_cons (pm_lc (own := [("sign", 2)]) false rfl sc_whole_of.nd (pmi_sgn (pm_var 1)) (blkOk_by (by rfl)) (fun _ _ _ _ _ => (pmg_name 2 sc_whole_of.nd)) (fun _ _ _ _ _ => pmts_nil) (fun _ _ _ _ _ => (pm_in (pm_var 2) pm_str))) pma_nil))))))).pt (pms_one (pm_ret pm_non)) pms_nil)
  (pms_one (pm_ret (pm_if (pmt_eq hr.room (pm_str_ fx.b_str (pma_cons (pm_int_ fx.b_int (pma_cons (pm_var 0) pma_nil)) pma_nil)) (pm_var 0)) (pm_int_ fx.b_int (pma_cons (pm_var 0) pma_nil)) pm_non)))))
theorem c_whole_of (fx : Fx K mg) : Cal P w K mg base 1 "whole_of" 1 G_whole_of := by
  obtain ⟨fd, F⟩ := fx.d_whole_of
  exact ⟨_, fd, ["word"], rfl, fn_whole_of fx F, fx.f_whole_of, F.kp, F.bindsN fun _ _ _ _ _ _ us hl => match us, hl with | [_], _ => rfl⟩
theorem sc_word_at : FnScope N_word_at ["words", "at"] (defScope (top 18)) := ⟨rfl, rfl, rfl, by decide +kernel, rfl, by decide +kernel, by decide +kernel⟩
theorem fn_word_at (fx : Fx K mg) {fd : FuncData} (F : FunD K "word_at" "word_at" (defArgs (top 18)) (defBody (top 18)) (defScope (top 18)) [] [] (He.ga K "word_at") fd) : FnG P w K mg base 3 (He.ga K "word_at") fd ["words", "at"] (spM K 2 G_word_at) :=
  fnG_body (k := 2) (N := N_word_at) (ps := ["words", "at"]) (m := m_word_at) F sc_word_at fun cdv A outer s H E B hr =>
  (pms_cons (pm_ifS (pmt_ge (pm_var 1) (pm_len fx.b_len (pma_cons (pm_var 0) pma_nil))) (pms_one (pm_raiseI rfl takesB (ini_InvalidText fx) (hr.mono (by decide)) fx.g_InvalidText (pm_len fx.b_len (pma_cons (pm_var 0) pma_nil)))) pms_nil)
  (pms_one (pm_ret (pm_ix (pm_var 0) (pm_var 1)))))
theorem c_word_at (fx : Fx K mg) : Cal P w K mg base 3 "word_at" 2 G_word_at := by
  obtain ⟨fd, F⟩ := fx.d_word_at
  exact ⟨_, fd, ["words", "at"], rfl, fn_word_at fx F, fx.f_word_at, F.kp, F.bindsN fun _ _ _ _ _ _ us hl => match us, hl with | [_, _], _ => rfl⟩
theorem sc_read_setting : FnScope N_read_setting ["frame", "text"] (defScope (top 20)) := ⟨rfl, rfl, rfl, by decide +kernel, rfl, by decide +kernel, by decide +kernel⟩
theorem fn_read_setting (fx : Fx K mg) {fd : FuncData} (F : FunD K "read_setting" "read_setting" (defArgs (top 20)) (defBody (top 20)) (defScope (top 20)) [] [] (He.ga K "read_setting") fd) : FnG P w K mg base 4 (He.ga K "read_setting") fd ["frame", "text"] (spM K 2 G_read_setting) :=
  fnG_body (k := 3) (N := N_read_setting) (ps := ["frame", "text"]) (m := m_read_setting) F sc_read_setting fun cdv A outer s H E B hr =>
  (pms_cons (pm_exp (pm_call ((c_need_frame fx).mono (by decide)) hr takesB (pma_cons (pm_var 0) pma_nil)))
  (pms_cons (pm_par 2 3 rfl sc_read_setting.nd (pma_cons (pm_split false (pm_var 1) (pma_cons pm_str pma_nil)) (pma_cons (pm_lst true pma_nil) pma_nil)))
  (pms_cons (pm_for passB rfl (pmi_rng1 fx.b_range (pma_cons (pm_add false (pm_ix (pm_var 0) pm_int) (pm_ix (pm_var 0) pm_int)) pma_nil)) (pmg_name 4 sc_read_setting.nd) (fun _ => (pms_cons (pm_set 5 sc_read_setting.nd (pm_call ((c_whole_of fx).mono (by decide)) hr takesB (pma_cons (pm_call ((c_word_at fx).mono (by decide)) hr takesB (pma_cons (pm_var 2) (pma_cons (pm_var 4) pma_nil))) pma_nil)))
  (pms_cons (pm_ifS (pmt_isN (pm_var 5) pm_non) (pms_one (pm_raiseI rfl takesB (ini_InvalidText fx) (hr.mono (by decide)) fx.g_InvalidText (pm_var 4))) pms_nil)
  (pms_one (pm_exp (pm_append (pm_var 3) (pma_cons (pm_var 5) pma_nil))))))))
  (pms_cons (pm_ifS (pmt_gt (pm_len fx.b_len (pma_cons (pm_var 2) pma_nil)) (pm_len fx.b_len (pma_cons (pm_var 3) pma_nil))) (pms_one (pm_raiseI rfl takesB (ini_InvalidText fx) (hr.mono (by decide)) fx.g_InvalidText (pm_len fx.b_len (pma_cons (pm_var 3) pma_nil)))) pms_nil)
  (pms_one (pm_ret (pm_tup (pma_cons (pm_sl true (pm_var 3) pmo_none (pmo_some (pm_ix (pm_var 0) pm_int))) (pma_cons (pm_sl true (pm_var 3) (pmo_some (pm_ix (pm_var 0) pm_int)) pmo_none) pma_nil)))))))))
theorem c_read_setting (fx : Fx K mg) : Cal P w K mg base 4 "read_setting" 2 G_read_setting := by
  obtain ⟨fd, F⟩ := fx.d_read_setting
  exact ⟨_, fd, ["frame", "text"], rfl, fn_read_setting fx F, fx.f_read_setting, F.kp, F.bindsN fun _ _ _ _ _ _ us hl => match us, hl with | [_, _], _ => rfl⟩
theorem k_read_setting_text_frame (fx : Fx K mg) : CalK P w K mg base 4 "read_setting" ["text", "frame"] 2 [1, 0] G_read_setting := by
  obtain ⟨fd, F⟩ := fx.d_read_setting
  exact ⟨_, fd, ["frame", "text"], rfl, fn_read_setting fx F, fx.f_read_setting, F.kp, fun s ws hK hl => match ws, hl with | [_, _], _ => bindsBy F (fun _ _ _ _ _ _ => rfl) s⟩
theorem sc__law_right : FnScope N__law_right ["plane", "told"] (defScope (top 28)) := ⟨rfl, rfl, rfl, by decide +kernel, rfl, by decide +kernel, by decide +kernel⟩
theorem fn__law_right (fx : Fx K mg) {fd : FuncData} (F : FunD K "_law_right" "_law_right" (defArgs (top 28)) (defBody (top 28)) (defScope (top 28)) [] [] (He.ga K "_law_right") fd) : FnG P w K mg base 5 (He.ga K "_law_right") fd ["plane", "told"] (spM K 2 G__law_right) :=
  fnG_body (k := 4) (N := N__law_right) (ps := ["plane", "told"]) (m := m__law_right) F sc__law_right fun cdv A outer s H E B hr =>
  (pms_cons (pm_set 2 sc__law_right.nd (pm_split false (pm_var 1) (pma_cons pm_str pma_nil)))
  (pms_cons (pm_set 3 sc__law_right.nd (pm_call ((c__law_place fx).mono (by decide)) hr takesB (pma_cons (pm_var 0) (pma_cons (pm_var 2) pma_nil))))
  (pms_cons (pm_try (i := 5) rfl rfl rfl sc__law_right.nd rfl rfl ⟨rfl, by decide, .inl fx.g_PaintError⟩ takesB fx.es_PaintError (fun W pn xe tk pp => (pms_one (pm_set 4 sc__law_right.nd (pm_call ((c_read_setting fx).mono (by decide)) hr tk (pma_cons (pm_var 0) (pma_cons (pm_var 1) pma_nil)))))) (fun a pn => (pms_one (pm_set 4 sc__law_right.nd (pm_var 5)))))
  (pms_cons (pm_ifS (pmt_isN (pm_var 3) pm_non) (pms_one (pm_ret (pm_eq hr.room (pm_repr hr fx.b_repr (pma_cons (pm_var 4) pma_nil)) (pm_repr hr fx.b_repr (pma_cons (pm_call ((c__law_due fx).mono (by decide)) hr takesB (pma_cons (pm_var 0) (pma_cons (pm_var 2) pma_nil))) pma_nil))))) pms_nil)
  (pms_cons (pm_ifS (pmw_or (pmt_not (pmt_val (pm_isC fx.is_InvalidText fx.g_InvalidText fx.b_isinstance (pm_var 4)))) (pmw_or1 (pmt_not (pmt_val (pm_isT fx.is_ValueError fx.b_ValueError fx.b_isinstance bt_ValueError (pm_var 4)))))).pt (pms_one (pm_ret pm_bl)) pms_nil)
  (pms_cons (pm_ifS (pmw_or (pmt_val (pm_isC fx.is_InvalidSetting fx.g_InvalidSetting fx.b_isinstance (pm_var 4))) (pmw_or1 (pmt_val (pm_isC fx.is_InvalidFrame fx.g_InvalidFrame fx.b_isinstance (pm_var 4))))).pt (pms_one (pm_ret pm_bl)) pms_nil)
  (pms_one (pm_ret (pm_eq hr.room (pm_repr hr fx.b_repr (pma_cons (pm_xfd fx.x_place (pm_var 4)) pma_nil)) (pm_repr hr fx.b_repr (pma_cons (pm_var 3) pma_nil)))))))))))
theorem c__law_right (fx : Fx K mg) : Cal P w K mg base 5 "_law_right" 2 G__law_right := by
  obtain ⟨fd, F⟩ := fx.d__law_right
  exact ⟨_, fd, ["plane", "told"], rfl, fn__law_right fx F, fx.f__law_right, F.kp, F.bindsN fun _ _ _ _ _ _ us hl => match us, hl with | [_, _], _ => rfl⟩
theorem sc_is_number : FnScope N_is_number ["value"] (defScope (top 11)) := ⟨rfl, rfl, rfl, by decide +kernel, rfl, by decide +kernel, by decide +kernel⟩
theorem fn_is_number (fx : Fx K mg) {fd : FuncData} (F : FunD K "is_number" "is_number" (defArgs (top 11)) (defBody (top 11)) (defScope (top 11)) [] [] (He.ga K "is_number") fd) : FnG P w K mg base 1 (He.ga K "is_number") fd ["value"] (spM K 1 G_is_number) :=
  fnG_body (k := 0) (N := N_is_number) (ps := ["value"]) (m := m_is_number) F sc_is_number fun cdv A outer s H E B hr =>
  (pms_one (pm_ret (pm_and (pm_isT fx.is_int fx.b_int fx.b_isinstance bt_int (pm_var 0)) (pm_one (pm_not (pm_isT fx.is_bool fx.b_bool fx.b_isinstance bt_bool (pm_var 0)))))))
theorem c_is_number (fx : Fx K mg) : Cal P w K mg base 1 "is_number" 1 G_is_number := by
  obtain ⟨fd, F⟩ := fx.d_is_number
  exact ⟨_, fd, ["value"], rfl, fn_is_number fx F, fx.f_is_number, F.kp, F.bindsN fun _ _ _ _ _ _ us hl => match us, hl with | [_], _ => rfl⟩
theorem sc_are_values : FnScope N_are_values ["value", "many"] (defScope (top 12)) := ⟨rfl, rfl, rfl, by decide +kernel, rfl, by decide +kernel, by decide +kernel⟩
theorem fn_are_values (fx : Fx K mg) {fd : FuncData} (F : FunD K "are_values" "are_values" (defArgs (top 12)) (defBody (top 12)) (defScope (top 12)) [] [] (He.ga K "are_values") fd) : FnG P w K mg base 2 (He.ga K "are_values") fd ["value", "many"] (spM K 2 G_are_values) :=
  fnG_body (k := 1) (N := N_are_values) (ps := ["value", "many"]) (m := m_are_values) F sc_are_values fun cdv A outer s H E B hr =>
  (pms_one (pm_ret (pm_and (pm_isT fx.is_list fx.b_list fx.b_isinstance bt_list (pm_var 0)) (pm_and (pm_eq hr.room (pm_len fx.b_len (pma_cons (pm_var 0) pma_nil)) (pm_var 1)) (pm_one (pm_all rfl fx.b_all (pma_cons (pm_lc (own := [("part", 2)]) false rfl sc_are_values.nd (pmi_seq (pm_var 0)) (blkOk_by (by rfl)) (fun _ _ _ _ _ => (pmg_name 2 sc_are_values.nd)) (fun _ _ _ _ _ => pmts_nil) (fun _ _ _ _ _ => (pm_call ((c_is_number fx).mono (by decide)) hr takesN (pma_cons (pm_var 2) pma_nil)))) pma_nil)))))))
theorem c_are_values (fx : Fx K mg) : Cal P w K mg base 2 "are_values" 2 G_are_values := by
  obtain ⟨fd, F⟩ := fx.d_are_values
  exact ⟨_, fd, ["value", "many"], rfl, fn_are_values fx F, fx.f_are_values, F.kp, F.bindsN fun _ _ _ _ _ _ us hl => match us, hl with | [_, _], _ => rfl⟩
theorem sc_fits_setting : FnScope N_fits_setting ["frame", "value"] (defScope (top 13)) := ⟨rfl, rfl, rfl, by decide +kernel, rfl, by decide +kernel, by decide +kernel⟩
theorem fn_fits_setting (fx : Fx K mg) {fd : FuncData} (F : FunD K "fits_setting" "fits_setting" (defArgs (top 13)) (defBody (top 13)) (defScope (top 13)) [] [] (He.ga K "fits_setting") fd) : FnG P w K mg base 3 (He.ga K "fits_setting") fd ["frame", "value"] (spM K 2 G_fits_setting) :=
  fnG_body (k := 2) (N := N_fits_setting) (ps := ["frame", "value"]) (m := m_fits_setting) F sc_fits_setting fun cdv A outer s H E B hr =>
  (pms_cons (pm_ifS (pmw_or (pmt_not (pmt_val (pm_isT fx.is_tuple fx.b_tuple fx.b_isinstance bt_tuple (pm_var 1)))) (pmw_or1 (pmt_ne hr.room (pm_len fx.b_len (pma_cons (pm_var 1) pma_nil)) pm_int))).pt (pms_one (pm_ret pm_bl)) pms_nil)
  (pms_one (pm_ret (pm_and (pm_call ((c_are_values fx).mono (by decide)) hr takesB (pma_cons (pm_ix (pm_var 1) pm_int) (pma_cons (pm_ix (pm_var 0) pm_int) pma_nil))) (pm_one (pm_call ((c_are_values fx).mono (by decide)) hr takesB (pma_cons (pm_ix (pm_var 1) pm_int) (pma_cons (pm_ix (pm_var 0) pm_int) pma_nil))))))))
theorem c_fits_setting (fx : Fx K mg) : Cal P w K mg base 3 "fits_setting" 2 G_fits_setting := by
  obtain ⟨fd, F⟩ := fx.d_fits_setting
  exact ⟨_, fd, ["frame", "value"], rfl, fn_fits_setting fx F, fx.f_fits_setting, F.kp, F.bindsN fun _ _ _ _ _ _ us hl => match us, hl with | [_, _], _ => rfl⟩
theorem sc_need_setting : FnScope N_need_setting ["frame", "setting"] (defScope (top 14)) := ⟨rfl, rfl, rfl, by decide +kernel, rfl, by decide +kernel, by decide +kernel⟩
theorem fn_need_setting (fx : Fx K mg) {fd : FuncData} (F : FunD K "need_setting" "need_setting" (defArgs (top 14)) (defBody (top 14)) (defScope (top 14)) [] [] (He.ga K "need_setting") fd) : FnG P w K mg base 4 (He.ga K "need_setting") fd ["frame", "setting"] (spM K 2 G_need_setting) :=
  fnG_body (k := 3) (N := N_need_setting) (ps := ["frame", "setting"]) (m := m_need_setting) F sc_need_setting fun cdv A outer s H E B hr =>
  (pms_one (pm_ifS (pmt_not (pmt_val (pm_call ((c_fits_setting fx).mono (by decide)) hr takesB (pma_cons (pm_var 0) (pma_cons (pm_var 1) pma_nil))))) (pms_one (pm_raiseO rfl takesB fx.r_InvalidSetting fx.g_InvalidSetting)) pms_nil))
theorem c_need_setting (fx : Fx K mg) : Cal P w K mg base 4 "need_setting" 2 G_need_setting := by
  obtain ⟨fd, F⟩ := fx.d_need_setting
  exact ⟨_, fd, ["frame", "setting"], rfl, fn_need_setting fx F, fx.f_need_setting, F.kp, F.bindsN fun _ _ _ _ _ _ us hl => match us, hl with | [_, _], _ => rfl⟩
theorem sc_write_setting : FnScope N_write_setting ["frame", "setting"] (defScope (top 19)) := ⟨rfl, rfl, rfl, by decide +kernel, rfl, by decide +kernel, by decide +kernel⟩
theorem fn_write_setting (fx : Fx K mg) {fd : FuncData} (F : FunD K "write_setting" "write_setting" (defArgs (top 19)) (defBody (top 19)) (defScope (top 19)) [] [] (He.ga K "write_setting") fd) : FnG P w K mg base 5 (He.ga K "write_setting") fd ["frame", "setting"] (spM K 2 G_write_setting) :=
  fnG_body (k := 4) (N := N_write_setting) (ps := ["frame", "setting"]) (m := m_write_setting) F sc_write_setting fun cdv A outer s H E B hr =>
  (pms_cons (pm_exp (pm_call ((c_need_frame fx).mono (by decide)) hr takesB (pma_cons (pm_var 0) pma_nil)))
  (pms_cons (pm_exp (pm_call ((c_need_setting fx).mono (by decide)) hr takesB (pma_cons (pm_var 0) (pma_cons (pm_var 1) pma_nil))))
  (pms_one (pm_ret (pm_join pm_str (pma_cons (pm_lc (own := [("value", 2)]) false rfl sc_write_setting.nd (pmi_seq (pm_add false (pm_ix (pm_var 1) pm_int) (pm_ix (pm_var 1) pm_int))) (blkOk_by (by rfl)) (fun _ _ _ _ _ => (pmg_name 2 sc_write_setting.nd)) (fun _ _ _ _ _ => pmts_nil) (fun _ _ _ _ _ => (pm_str_ fx.b_str (pma_cons (pm_var 2) pma_nil)))) pma_nil))))))
theorem c_write_setting (fx : Fx K mg) : Cal P w K mg base 5 "write_setting" 2 G_write_setting := by
  obtain ⟨fd, F⟩ := fx.d_write_setting
  exact ⟨_, fd, ["frame", "setting"], rfl, fn_write_setting fx F, fx.f_write_setting, F.kp, F.bindsN fun _ _ _ _ _ _ us hl => match us, hl with | [_, _], _ => rfl⟩
theorem k_write_setting_setting_frame (fx : Fx K mg) : CalK P w K mg base 5 "write_setting" ["setting", "frame"] 2 [1, 0] G_write_setting := by
  obtain ⟨fd, F⟩ := fx.d_write_setting
  exact ⟨_, fd, ["frame", "setting"], rfl, fn_write_setting fx F, fx.f_write_setting, F.kp, fun s ws hK hl => match ws, hl with | [_, _], _ => bindsBy F (fun _ _ _ _ _ _ => rfl) s⟩
theorem sc__law_back_right : FnScope N__law_back_right ["plane", "poise"] (defScope (top 30)) := ⟨rfl, rfl, rfl, by decide +kernel, rfl, by decide +kernel, by decide +kernel⟩
theorem fn__law_back_right (fx : Fx K mg) {fd : FuncData} (F : FunD K "_law_back_right" "_law_back_right" (defArgs (top 30)) (defBody (top 30)) (defScope (top 30)) [] [] (He.ga K "_law_back_right") fd) : FnG P w K mg base 6 (He.ga K "_law_back_right") fd ["plane", "poise"] (spM K 2 G__law_back_right) :=
  fnG_body (k := 5) (N := N__law_back_right) (ps := ["plane", "poise"]) (m := m__law_back_right) F sc__law_back_right fun cdv A outer s H E B hr =>
  (pms_cons (pm_set 3 sc__law_back_right.nd (pm_join pm_str (pma_cons (pm_lc (own := [("value", 2)]) false rfl sc__law_back_right.nd (pmi_seq (pm_add false (pm_ix (pm_var 1) pm_int) (pm_ix (pm_var 1) pm_int))) (blkOk_by (by rfl)) (fun _ _ _ _ _ => (pmg_name 2 sc__law_back_right.nd)) (fun _ _ _ _ _ => pmts_nil) (fun _ _ _ _ _ => (pm_str_ fx.b_str (pma_cons (pm_var 2) pma_nil)))) pma_nil)))
  (pms_cons (pm_set 4 sc__law_back_right.nd (pm_repr hr fx.b_repr (pma_cons (pm_var 1) pma_nil)))
  (pms_cons (pm_set 5 sc__law_back_right.nd (pm_lst false (pma_cons (pm_call ((c_write_setting fx).mono (by decide)) hr takesB (pma_cons (pm_var 0) (pma_cons (pm_var 1) pma_nil))) (pma_cons (pm_callK ((k_write_setting_setting_frame fx).mono (by decide)) hr takesB (pmk_cons' (pm_var 1) (pmk_cons' (pm_var 0) pmk_nil')) (aCons_len (aCons_len aNil_len))) pma_nil))))
  (pms_cons (pm_ifS (pmw_or (pmt_ne hr.room (pm_var 5) (pm_lst false (pma_cons (pm_var 3) (pma_cons (pm_var 3) pma_nil)))) (pmw_or1 (pmt_ne hr.room (pm_repr hr fx.b_repr (pma_cons (pm_var 1) pma_nil)) (pm_var 4)))).pt (pms_one (pm_ret pm_bl)) pms_nil)
  (pms_cons (pm_ifS (pmt_ne hr.room (pm_lc (own := [("value", 2)]) false rfl sc__law_back_right.nd (pmi_seq (pm_add false (pm_ix (pm_var 1) pm_int) (pm_ix (pm_var 1) pm_int))) (blkOk_by (by rfl)) (fun _ _ _ _ _ => (pmg_name 2 sc__law_back_right.nd)) (fun _ _ _ _ _ => (pmts_one (pmt_ge (pm_abs fx.b_abs (pma_cons (pm_var 2) pma_nil)) (pm_pow pm_int pm_int)))) (fun _ _ _ _ _ => (pm_var 2))) (pm_lst false pma_nil)) (pms_one (pm_ret (pm_call ((c__law_right fx).mono (by decide)) hr takesB (pma_cons (pm_var 0) (pma_cons (pm_var 3) pma_nil))))) pms_nil)
  (pms_cons (pm_set 6 sc__law_back_right.nd (pm_call ((c_read_setting fx).mono (by decide)) hr takesB (pma_cons (pm_var 0) (pma_cons (pm_var 3) pma_nil))))
  (pms_cons (pm_ifS (pmw_or (pmt_ne hr.room (pm_repr hr fx.b_repr (pma_cons (pm_var 6) pma_nil)) (pm_var 4)) (pmw_or1 (pmt_ne hr.room (pm_repr hr fx.b_repr (pma_cons (pm_callK ((k_read_setting_text_frame fx).mono (by decide)) hr takesB (pmk_cons' (pm_var 3) (pmk_cons' (pm_var 0) pmk_nil')) (aCons_len (aCons_len aNil_len))) pma_nil)) (pm_var 4)))).pt (pms_one (pm_ret pm_bl)) pms_nil)
  (pms_cons (pm_for passB rfl (pmi_seq (pm_var 6)) (pmg_name 7 sc__law_back_right.nd) (fun _ => (pms_one (pm_exp (pm_append (pm_var 7) (pma_cons pm_int pma_nil))))))
  (pms_cons (pm_ifS (pmt_ne hr.room (pm_lc (own := [("values", 7)]) false rfl sc__law_back_right.nd (pmi_seq (pm_var 6)) (blkOk_by (by rfl)) (fun _ _ _ _ _ => (pmg_name 7 sc__law_back_right.nd)) (fun _ _ _ _ _ => pmts_nil) (fun _ _ _ _ _ => (pm_len fx.b_len (pma_cons (pm_var 7) pma_nil)))) (pm_lst false (pma_cons (pm_add false (pm_ix (pm_var 0) pm_int) pm_int) (pma_cons (pm_add false (pm_ix (pm_var 0) pm_int) pm_int) pma_nil)))) (pms_one (pm_ret pm_bl)) pms_nil)
  (pms_one (pm_ret (pm_eq hr.room (pm_repr hr fx.b_repr (pma_cons (pm_call ((c_read_setting fx).mono (by decide)) hr takesB (pma_cons (pm_var 0) (pma_cons (pm_var 3) pma_nil))) pma_nil)) (pm_var 4)))))))))))))
theorem c__law_back_right (fx : Fx K mg) : Cal P w K mg base 6 "_law_back_right" 2 G__law_back_right := by
  obtain ⟨fd, F⟩ := fx.d__law_back_right
  exact ⟨_, fd, ["plane", "poise"], rfl, fn__law_back_right fx F, fx.f__law_back_right, F.kp, F.bindsN fun _ _ _ _ _ _ us hl => match us, hl with | [_, _], _ => rfl⟩
theorem sc__law_bag : FnScope N__law_bag ["cell"] (defScope (top 22)) := ⟨rfl, rfl, rfl, by decide +kernel, rfl, by decide +kernel, by decide +kernel⟩
theorem fn__law_bag (fx : Fx K mg) {fd : FuncData} (F : FunD K "_law_bag" "_law_bag" (defArgs (top 22)) (defBody (top 22)) (defScope (top 22)) [] [] (He.ga K "_law_bag") fd) : FnG P w K mg base 1 (He.ga K "_law_bag") fd ["cell"] (spM K 1 G__law_bag) :=
  fnG_body (k := 0) (N := N__law_bag) (ps := ["cell"]) (m := m__law_bag) F sc__law_bag fun cdv A outer s H E B hr =>
  (pms_cons (pm_set 1 sc__law_bag.nd pm_int)
  (pms_cons (pm_ifS (pmt_ge (pm_var 0) (pm_pow pm_int pm_int)) (pms_one (pm_set 1 sc__law_bag.nd (pm_sub (pm_var 0) (pm_pow pm_int pm_int)))) pms_nil)
  (pms_one (pm_ret (pm_lst true (pma_cons (pm_var 1) (pma_cons (pm_mod (pm_int_ fx.b_int (pma_cons (pm_var 0) pma_nil)) pm_int) (pma_cons pm_int pma_nil))))))))
theorem c__law_bag (fx : Fx K mg) : Cal P w K mg base 1 "_law_bag" 1 G__law_bag := by
  obtain ⟨fd, F⟩ := fx.d__law_bag
  exact ⟨_, fd, ["cell"], rfl, fn__law_bag fx F, fx.f__law_bag, F.kp, F.bindsN fun _ _ _ _ _ _ us hl => match us, hl with | [_], _ => rfl⟩
theorem sc__law_draw : FnScope N__law_draw ["bag", "many"] (defScope (top 23)) := ⟨rfl, rfl, rfl, by decide +kernel, rfl, by decide +kernel, by decide +kernel⟩
theorem fn__law_draw (fx : Fx K mg) {fd : FuncData} (F : FunD K "_law_draw" "_law_draw" (defArgs (top 23)) (defBody (top 23)) (defScope (top 23)) [] [] (He.ga K "_law_draw") fd) : FnG P w K mg base 1 (He.ga K "_law_draw") fd ["bag", "many"] (spM K 2 G__law_draw) :=
  fnG_body (k := 0) (N := N__law_draw) (ps := ["bag", "many"]) (m := m__law_draw) F sc__law_draw fun cdv A outer s H E B hr =>
  (pms_cons (pm_ifS (pmt_gt (pm_ix (pm_var 0) pm_int) pm_int) (pms_cons (pm_set 2 sc__law_draw.nd (pm_mod (pm_int_ fx.b_int (pma_cons (pm_ix (pm_var 0) pm_int) pma_nil)) (pm_var 1)))
  (pms_cons (pm_put (pm_fdiv (pm_ix (pm_var 0) pm_int) (pm_var 1)) (pm_var 0) pm_int)
  (pms_one (pm_ret (pm_var 2))))) pms_nil)
  (pms_cons (pm_put (pm_add false (pm_ix (pm_var 0) pm_int) pm_int) (pm_var 0) pm_int)
  (pms_cons (pm_set 3 sc__law_draw.nd (pm_ix (pm_var 0) pm_int))
  (pms_cons (pm_set 4 sc__law_draw.nd (pm_add false (pm_mul (pm_add false (pm_ix (pm_var 0) pm_int) pm_int) (pm_add false (pm_add false (pm_mul (pm_mul pm_int (pm_var 3)) (pm_var 3)) (pm_mul pm_int (pm_var 3))) pm_int)) (pm_mul pm_int (pm_var 3))))
  (pms_cons (pm_set 4 sc__law_draw.nd (pm_fdiv (pm_mod (pm_int_ fx.b_int (pma_cons (pm_add false (pm_mul (pm_var 4) (pm_var 4)) (pm_mul pm_int (pm_var 4))) pma_nil)) pm_int) pm_int))
  (pms_one (pm_ret (pm_mod (pm_fdiv (pm_mod (pm_int_ fx.b_int (pma_cons (pm_add false (pm_add false (pm_mul (pm_var 4) (pm_var 4)) (pm_mul pm_int (pm_var 4))) (pm_var 3)) pma_nil)) pm_int) pm_int) (pm_var 1)))))))))
theorem c__law_draw (fx : Fx K mg) : Cal P w K mg base 1 "_law_draw" 2 G__law_draw := by
  obtain ⟨fd, F⟩ := fx.d__law_draw
  exact ⟨_, fd, ["bag", "many"], rfl, fn__law_draw fx F, fx.f__law_draw, F.kp, F.bindsN fun _ _ _ _ _ _ us hl => match us, hl with | [_, _], _ => rfl⟩
theorem sc__law_changed : FnScope N__law_changed ["bag", "words"] (defScope (top 29)) := ⟨rfl, rfl, rfl, by decide +kernel, rfl, by decide +kernel, by decide +kernel⟩
theorem fn__law_changed (fx : Fx K mg) {fd : FuncData} (F : FunD K "_law_changed" "_law_changed" (defArgs (top 29)) (defBody (top 29)) (defScope (top 29)) [] [] (He.ga K "_law_changed") fd) : FnG P w K mg base 2 (He.ga K "_law_changed") fd ["bag", "words"] (spM K 2 G__law_changed) :=
  fnG_body (k := 1) (N := N__law_changed) (ps := ["bag", "words"]) (m := m__law_changed) F sc__law_changed fun cdv A outer s H E B hr =>
  (pms_cons (pm_set 2 sc__law_changed.nd (pm_lst false (pma_cons pm_str (pma_cons pm_str (pma_cons pm_str (pma_cons pm_str (pma_cons pm_str (pma_cons pm_str (pma_cons pm_str (pma_cons pm_str (pma_cons pm_str (pma_cons pm_str (pma_cons pm_str pma_nil)))))))))))))
  (pms_cons (pm_set 2 sc__law_changed.nd (pm_add false (pm_var 2) (pm_lst false (pma_cons pm_str (pma_cons pm_str (pma_cons pm_str pma_nil))))))
  (pms_cons (pm_set 3 sc__law_changed.nd (pm_lst false (pma_cons (pm_ix (pm_var 2) (pm_call ((c__law_draw fx).mono (by decide)) hr takesB (pma_cons (pm_var 0) (pma_cons (pm_len fx.b_len (pma_cons (pm_var 2) pma_nil)) pma_nil)))) pma_nil)))
  (pms_cons (pm_par 4 5 rfl sc__law_changed.nd (pma_cons (pm_call ((c__law_draw fx).mono (by decide)) hr takesB (pma_cons (pm_var 0) (pma_cons pm_int pma_nil))) (pma_cons (pm_call ((c__law_draw fx).mono (by decide)) hr takesB (pma_cons (pm_var 0) (pma_cons (pm_add false (pm_len fx.b_len (pma_cons (pm_var 1) pma_nil)) pm_int) pma_nil))) pma_nil)))
  (pms_cons (pm_ifS (pmt_lt (pm_var 4) pm_int) (pms_one (pm_ret (pm_add false (pm_add false (pm_sl false (pm_var 1) pmo_none (pmo_some (pm_var 5))) (pm_var 3)) (pm_sl false (pm_var 1) (pmo_some (pm_add false (pm_var 5) (pm_var 4))) pmo_none)))) pms_nil)
  (pms_cons (pm_ifS (pmt_eq hr.room (pm_var 4) pm_int) (pms_one (pm_ret (pm_add false (pm_sl false (pm_var 1) pmo_none (pmo_some (pm_var 5))) (pm_sl false (pm_var 1) (pmo_some (pm_add false (pm_var 5) pm_int)) pmo_none)))) pms_nil)
  (pms_cons (pm_ifS (pmt_eq hr.room (pm_var 4) pm_int) (pms_one (pm_ret (pm_add false (pm_add false (pm_sl false (pm_var 1) pmo_none (pmo_some (pm_var 5))) (pm_sl false (pm_var 1) (pmo_some (pm_var 5)) (pmo_some (pm_add false (pm_var 5) pm_int)))) (pm_sl false (pm_var 1) (pmo_some (pm_var 5)) pmo_none)))) pms_nil)
  (pms_cons (pm_ifS (pmt_eq hr.room (pm_var 5) (pm_len fx.b_len (pma_cons (pm_var 1) pma_nil))) (pms_one (pm_ret (pm_add false (pm_var 1) (pm_var 3)))) pms_nil)
  (pms_cons (pm_set 6 sc__law_changed.nd (pm_call ((c__law_draw fx).mono (by decide)) hr takesB (pma_cons (pm_var 0) (pma_cons (pm_add false (pm_len fx.b_len (pma_cons (pm_ix (pm_var 1) (pm_var 5)) pma_nil)) pm_int) pma_nil))))
  (pms_cons (pm_set 7 sc__law_changed.nd (pm_ix (pm_lst false (pma_cons pm_str (pma_cons pm_str (pma_cons pm_str (pma_cons pm_str (pma_cons pm_str (pma_cons pm_str (pma_cons pm_str (pma_cons pm_str pma_nil))))))))) (pm_call ((c__law_draw fx).mono (by decide)) hr takesB (pma_cons (pm_var 0) (pma_cons pm_int pma_nil)))))
  (pms_cons (pm_set 8 sc__law_changed.nd (pm_add false (pm_add false (pm_sl false (pm_ix (pm_var 1) (pm_var 5)) pmo_none (pmo_some (pm_var 6))) (pm_var 7)) (pm_sl false (pm_ix (pm_var 1) (pm_var 5)) (pmo_some (pm_sub (pm_add false (pm_var 6) (pm_var 4)) pm_int)) pmo_none)))
  (pms_one (pm_ret (pm_add false (pm_add false (pm_sl false (pm_var 1) pmo_none (pmo_some (pm_var 5))) (pm_lst false (pma_cons (pm_var 8) pma_nil))) (pm_sl false (pm_var 1) (pmo_some (pm_add false (pm_var 5) pm_int)) pmo_none)))))))))))))))
theorem c__law_changed (fx : Fx K mg) : Cal P w K mg base 2 "_law_changed" 2 G__law_changed := by
  obtain ⟨fd, F⟩ := fx.d__law_changed
  exact ⟨_, fd, ["bag", "words"], rfl, fn__law_changed fx F, fx.f__law_changed, F.kp, F.bindsN fun _ _ _ _ _ _ us hl => match us, hl with | [_, _], _ => rfl⟩
theorem sc__law_plane : FnScope N__law_plane ["bag"] (defScope (top 24)) := ⟨rfl, rfl, rfl, by decide +kernel, rfl, by decide +kernel, by decide +kernel⟩
theorem fn__law_plane (fx : Fx K mg) {fd : FuncData} (F : FunD K "_law_plane" "_law_plane" (defArgs (top 24)) (defBody (top 24)) (defScope (top 24)) [] [] (He.ga K "_law_plane") fd) : FnG P w K mg base 2 (He.ga K "_law_plane") fd ["bag"] (spM K 1 G__law_plane) :=
  fnG_body (k := 1) (N := N__law_plane) (ps := ["bag"]) (m := m__law_plane) F sc__law_plane fun cdv A outer s H E B hr =>
  (pms_one (pm_ret (pm_tup (pma_cons (pm_add false pm_int (pm_call ((c__law_draw fx).mono (by decide)) hr takesB (pma_cons (pm_var 0) (pma_cons pm_int pma_nil)))) (pma_cons (pm_add false pm_int (pm_call ((c__law_draw fx).mono (by decide)) hr takesB (pma_cons (pm_var 0) (pma_cons pm_int pma_nil)))) pma_nil)))))
theorem c__law_plane (fx : Fx K mg) : Cal P w K mg base 2 "_law_plane" 1 G__law_plane := by
  obtain ⟨fd, F⟩ := fx.d__law_plane
  exact ⟨_, fd, ["bag"], rfl, fn__law_plane fx F, fx.f__law_plane, F.kp, F.bindsN fun _ _ _ _ _ _ us hl => match us, hl with | [_], _ => rfl⟩
theorem sc_law : FnScope N_law ["script"] (defScope (top 31)) := ⟨rfl, rfl, rfl, by decide +kernel, rfl, by decide +kernel, by decide +kernel⟩
theorem fn_law (fx : Fx K mg) {fd : FuncData} (F : FunD K "law" "law" (defArgs (top 31)) (defBody (top 31)) (defScope (top 31)) [] [] (He.ga K "law") fd) : FnG P w K mg base 7 (He.ga K "law") fd ["script"] (spM K 1 G_law) :=
  fnG_body (k := 6) (N := N_law) (ps := ["script"]) (m := m_law) F sc_law fun cdv A outer s H E B hr =>
  (pms_cons (pm_for passB rfl (pmi_seq (pm_add false (pm_lst false (pma_cons pm_int pma_nil)) (pm_sl false (pm_var 0) pmo_none (pmo_some pm_int)))) (pmg_name 1 sc_law.nd) (fun _ => (pms_cons (pm_set 2 sc_law.nd (pm_call ((c__law_bag fx).mono (by decide)) hr takesB (pma_cons (pm_var 1) pma_nil)))
  (pms_cons (pm_set 3 sc_law.nd (pm_call ((c__law_plane fx).mono (by decide)) hr takesB (pma_cons (pm_var 2) pma_nil)))
  (pms_one (pm_for passB rfl (pmi_rng1 fx.b_range (pma_cons pm_int pma_nil)) (pmg_name 4 sc_law.nd) (fun _ => (pms_cons (pm_set 5 sc_law.nd (pm_ix (pm_lst false (pma_cons pm_int (pma_cons (pm_pow pm_int pm_int) (pma_cons (pm_pow pm_int pm_int) (pma_cons (pm_pow pm_int pm_int) pma_nil))))) (pm_call ((c__law_draw fx).mono (by decide)) hr takesB (pma_cons (pm_var 2) (pma_cons pm_int pma_nil)))))
  (pms_cons (pm_setlc 8 (own := [("many", 7)]) false rfl sc_law.nd (pmi_seq (pm_var 3)) (blkOk_by (by rfl)) (fun _ _ _ _ _ => (pmg_name 7 sc_law.nd)) (fun _ _ _ _ _ => pmts_nil) (fun _ _ _ _ _ => (pm_lc (own := [("turn", 6)]) false rfl sc_law.nd (pmi_rng1 fx.b_range (pma_cons (pm_var 7) pma_nil)) (blkOk_by (by rfl)) (fun _ _ _ _ _ => (pmg_name 6 sc_law.nd)) (fun _ _ _ _ _ => pmts_nil) (fun _ _ _ _ _ => (pm_add false (pm_sub (pm_call ((c__law_draw fx).mono (by decide)) hr takesN (pma_cons (pm_var 2) (pma_cons (pm_sub (pm_mul pm_int (pm_var 5)) pm_int) pma_nil))) (pm_var 5)) pm_int)))))
  (pms_cons (pm_ifS (pmt_not (pmt_val (pm_call ((c__law_back_right fx).mono (by decide)) hr takesB (pma_cons (pm_var 3) (pma_cons (pm_tup (pma_cons (pm_ix (pm_var 8) pm_int) (pma_cons (pm_ix (pm_var 8) pm_int) pma_nil))) pma_nil))))) (pms_one (pm_ret pm_bl)) pms_nil)
  (pms_cons (pm_setlc 10 (own := [("value", 9)]) false rfl sc_law.nd (pmi_seq (pm_add false (pm_ix (pm_var 8) pm_int) (pm_ix (pm_var 8) pm_int))) (blkOk_by (by rfl)) (fun _ _ _ _ _ => (pmg_name 9 sc_law.nd)) (fun _ _ _ _ _ => pmts_nil) (fun _ _ _ _ _ => (pm_str_ fx.b_str (pma_cons (pm_var 9) pma_nil))))
  (pms_cons (pm_for passB rfl (pmi_rng1 fx.b_range (pma_cons (pm_add false pm_int (pm_call ((c__law_draw fx).mono (by decide)) hr takesB (pma_cons (pm_var 2) (pma_cons pm_int pma_nil)))) pma_nil)) (pmg_name 6 sc_law.nd) (fun _ => (pms_one (pm_set 10 sc_law.nd (pm_call ((c__law_changed fx).mono (by decide)) hr takesB (pma_cons (pm_var 2) (pma_cons (pm_var 10) pma_nil)))))))
  (pms_cons (pm_set 11 sc_law.nd (pm_join pm_str (pma_cons (pm_var 10) pma_nil)))
  (pms_cons (pm_set 12 sc_law.nd (pm_lst false (pma_tok (pm_var 11) (pmxa_cons (pmx_of (pm_add false (pm_var 11) pm_str)) (pmxa_cons (pmx_rep (pm_var 11)) (pmxa_cons (pmx_of (pm_add false (pm_var 11) pm_str)) (pmxa_cons (pmx_rep (pm_var 11)) (pmxa_cons (pmx_of pm_str) pmxa_nil))))))))
  (pms_cons (pm_set 12 sc_law.nd (pm_add false (pm_var 12) (pm_lst false (pma_tok (pm_var 11) (pmxa_cons (pmx_rep (pm_var 11)) (pmxa_cons (pmx_of (pm_mulS pm_str pm_int)) pmxa_nil))))))
  (pms_cons (pm_ifS (pmw_or (pmt_not (pmt_val (pm_call ((c__law_right fx).mono (by decide)) hr takesB (pma_cons (pm_var 3) (pma_cons (pm_var 11) pma_nil))))) (pmw_or1 (pmt_not (pmt_val (pm_call ((c__law_right fx).mono (by decide)) hr takesB (pma_cons (pm_var 3) (pma_cons (pm_ix (pm_var 12) (pm_call ((c__law_draw fx).mono (by decide)) hr takesB (pma_cons (pm_var 2) (pma_cons pm_int pma_nil)))) pma_nil))))))).pt (pms_one (pm_ret pm_bl)) pms_nil)
  (pms_one (pm_ifS (pmw_or (pmt_not (pmt_val (pm_call ((c__law_right fx).mono (by decide)) hr takesB (pma_cons (pm_tup (pma_cons pm_int (pma_cons pm_int pma_nil))) (pma_cons (pm_var 11) pma_nil))))) (pmw_or1 (pmt_not (pmt_val (pm_call ((c__law_right fx).mono (by decide)) hr takesB (pma_cons (pm_var 3) (pma_cons (pm_var 11) pma_nil))))))).pt (pms_one (pm_ret pm_bl)) pms_nil))))))))))))))))))
  (pms_one (pm_ret pm_bl)))
theorem c_law (fx : Fx K mg) : Cal P w K mg base 7 "law" 1 G_law := by
  obtain ⟨fd, F⟩ := fx.d_law
  exact ⟨_, fd, ["script"], rfl, fn_law fx F, fx.f_law, F.kp, F.bindsN fun _ _ _ _ _ _ us hl => match us, hl with | [_], _ => rfl⟩
end
end K63

set_option maxHeartbeats 8000000
namespace K63
open PySem PySem.Spec PyProof.Rows L2 MD
/-! ### the head -/
def fd__law_due : He.DefD := ⟨("_law_due", none), "_law_due", "_law_due", defArgs (top 27), defBody (top 27), defScope (top 27), [], []⟩
def fd__law_number : He.DefD := ⟨("_law_number", none), "_law_number", "_law_number", defArgs (top 25), defBody (top 25), defScope (top 25), [], []⟩
def fd__law_place : He.DefD := ⟨("_law_place", none), "_law_place", "_law_place", defArgs (top 26), defBody (top 26), defScope (top 26), [], []⟩
def fd_is_whole : He.DefD := ⟨("is_whole", none), "is_whole", "is_whole", defArgs (top 7), defBody (top 7), defScope (top 7), [], []⟩
def fd_is_frame : He.DefD := ⟨("is_frame", none), "is_frame", "is_frame", defArgs (top 8), defBody (top 8), defScope (top 8), [], []⟩
def fd_need_frame : He.DefD := ⟨("need_frame", none), "need_frame", "need_frame", defArgs (top 9), defBody (top 9), defScope (top 9), [], []⟩
def fd_whole_of : He.DefD := ⟨("whole_of", none), "whole_of", "whole_of", defArgs (top 17), defBody (top 17), defScope (top 17), [], []⟩
def fd_word_at : He.DefD := ⟨("word_at", none), "word_at", "word_at", defArgs (top 18), defBody (top 18), defScope (top 18), [], []⟩
def fd_read_setting : He.DefD := ⟨("read_setting", none), "read_setting", "read_setting", defArgs (top 20), defBody (top 20), defScope (top 20), [], []⟩
def fd__law_right : He.DefD := ⟨("_law_right", none), "_law_right", "_law_right", defArgs (top 28), defBody (top 28), defScope (top 28), [], []⟩
def fd_is_number : He.DefD := ⟨("is_number", none), "is_number", "is_number", defArgs (top 11), defBody (top 11), defScope (top 11), [], []⟩
def fd_are_values : He.DefD := ⟨("are_values", none), "are_values", "are_values", defArgs (top 12), defBody (top 12), defScope (top 12), [], []⟩
def fd_fits_setting : He.DefD := ⟨("fits_setting", none), "fits_setting", "fits_setting", defArgs (top 13), defBody (top 13), defScope (top 13), [], []⟩
def fd_need_setting : He.DefD := ⟨("need_setting", none), "need_setting", "need_setting", defArgs (top 14), defBody (top 14), defScope (top 14), [], []⟩
def fd_write_setting : He.DefD := ⟨("write_setting", none), "write_setting", "write_setting", defArgs (top 19), defBody (top 19), defScope (top 19), [], []⟩
def fd__law_back_right : He.DefD := ⟨("_law_back_right", none), "_law_back_right", "_law_back_right", defArgs (top 30), defBody (top 30), defScope (top 30), [], []⟩
def fd__law_bag : He.DefD := ⟨("_law_bag", none), "_law_bag", "_law_bag", defArgs (top 22), defBody (top 22), defScope (top 22), [], []⟩
def fd__law_draw : He.DefD := ⟨("_law_draw", none), "_law_draw", "_law_draw", defArgs (top 23), defBody (top 23), defScope (top 23), [], []⟩
def fd__law_changed : He.DefD := ⟨("_law_changed", none), "_law_changed", "_law_changed", defArgs (top 29), defBody (top 29), defScope (top 29), [], []⟩
def fd__law_plane : He.DefD := ⟨("_law_plane", none), "_law_plane", "_law_plane", defArgs (top 24), defBody (top 24), defScope (top 24), [], []⟩
def fd_law : He.DefD := ⟨("law", none), "law", "law", defArgs (top 31), defBody (top 31), defScope (top 31), [], []⟩
def fdi_InvalidText : He.DefD := ⟨("InvalidText", some "__init__"), "__init__", "InvalidText.__init__", defArgs (imeth 4), defBody (imeth 4), defScope (imeth 4), [], []⟩
def fnD : List He.DefD := [fd__law_due, fd__law_number, fd__law_place, fd_is_whole, fd_is_frame, fd_need_frame, fd_whole_of, fd_word_at, fd_read_setting, fd__law_right, fd_is_number, fd_are_values, fd_fits_setting, fd_need_setting, fd_write_setting, fd__law_back_right, fd__law_bag, fd__law_draw, fd__law_changed, fd__law_plane, fd_law, fdi_InvalidText]
def fa : List He.Fa := ([.free "ValueError", .free "abs", .free "all", .free "bool", .free "int", .free "isinstance", .free "len", .free "list", .free "range", .free "repr", .free "str", .free "tuple", .glo "InvalidFrame", .glo "InvalidSetting", .glo "InvalidText", .int "MOST_DIGITS" 9, .int "MOST_UNKNOWN" 3, .glo "PaintError", .glo "_law_due", .glo "_law_number"] : List He.Fa) ++ ([.glo "_law_place", .glo "is_whole", .glo "is_frame", .glo "need_frame", .glo "whole_of", .glo "word_at", .glo "read_setting", .glo "_law_right", .glo "is_number", .glo "are_values", .glo "fits_setting", .glo "need_setting", .glo "write_setting", .glo "_law_back_right", .glo "_law_bag", .glo "_law_draw", .glo "_law_changed", .glo "_law_plane", .glo "law"] : List He.Fa)
def fxL (K : PySem.W.Frag) : List Bool := [(noLists K),
  (decide (He.ga K "PaintError" = cPaintError)),
  (decide (He.ga K "InvalidFrame" = cInvalidFrame)),
  (decide (He.ga K "InvalidSetting" = cInvalidSetting)),
  (decide (He.ga K "InvalidText" = cInvalidText)),
  (excCB K cPaintError),
  (excCB K cInvalidFrame),
  (excCB K cInvalidSetting),
  (excCB K cInvalidText),
  (isOkB K (.ref cInvalidFrame) kb_InvalidFrame cb_InvalidFrame eb_InvalidFrame),
  (isOkB K (.ref cInvalidSetting) kb_InvalidSetting cb_InvalidSetting eb_InvalidSetting),
  (isOkB K (.ref cInvalidText) kb_InvalidText cb_InvalidText eb_InvalidText),
  (isOkB K (.type "ValueError") kb_ValueError cb_ValueError eb_ValueError),
  (isOkB K (.type "bool") kb_bool cb_bool eb_bool),
  (isOkB K (.type "int") kb_int cb_int eb_int),
  (isOkB K (.type "list") kb_list cb_list eb_list),
  (isOkB K (.type "tuple") kb_tuple cb_tuple eb_tuple),
  (exmB K (.ref cPaintError) es_PaintError),
  (excMkB K cInvalidFrame),
  (excMkB K cInvalidSetting),
  (xs_place.all fun C => decide (PySem.W.findIn K (.ref C) "place" = some none)),
  (iniCB K cInvalidText cPaintError (He.ma K cInvalidText "__init__") "place")]
def fx (K : PySem.W.Frag) : Bool := (fxL K).all id
abbrev R : PySem.W.OpenRow := PySem.W.OpenLaw.row PySem.Challenge.rw_unknowncorners_k63_settings_written_and
abbrev qv : Program := PySem.W.view R.prog [31]
def loose : List PySem.Str := (["PaintError", "InvalidFrame", "InvalidSetting", "InvalidText", "MOST_UNKNOWN", "is_whole", "is_frame", "need_frame", "is_number", "are_values", "fits_setting", "need_setting", "MOST_DIGITS", "whole_of", "word_at", "write_setting", "read_setting", "_law_bag", "_law_draw", "_law_plane"] : List PySem.Str) ++ (["_law_number", "_law_place", "_law_due", "_law_right", "_law_changed", "_law_back_right"] : List PySem.Str)
abbrev hk : PySem.W.Hook := hookM 5 fa fx fnD
def ob (s : PySem.W.SharedT) : He.AlD := obsMG 5 fa fx fnD (HandSHeadRun.getT s)
theorem ob_eq (s : PySem.W.SharedT) : ob s = hk.obs s.abs := obsMG_eq (HandSHeadRun.getT_eq s)
theorem run : ∀ w : World, HandSHeadRun.RunEq R qv hk ob 20000 loose w :=
  PySem.W.byRow2 "special-get-raises" (fun w => by intro os; kernel_rfl) (fun w => by intro os; kernel_rfl)
theorem fxc {K : PySem.W.Frag} (c : SaysM fa fx fnD K) (i : Nat) {b : Bool} (h : (fxL K)[i]? = some b) : b = true := List.all_eq_true.mp c.look.2.1 b (List.mem_of_getElem? h)
theorem facts {K : PySem.W.Frag} {h : Heap} {mg : Str → Option Value} (X : K.In h) (G : h.Ns mainGlobals mg) (c : SaysM fa fx fnD K) : Fx K mg := by
  have he : ∀ C, C ∈ [cPaintError, cInvalidFrame, cInvalidSetting, cInvalidText] → ExcC K C := by
    intro C hC
    simp only [List.mem_cons, List.not_mem_nil, or_false] at hC
    rcases hC with rfl | rfl | rfl | rfl
    · exact excCB_ok (fxc c 5 rfl)
    · exact excCB_ok (fxc c 6 rfl)
    · exact excCB_ok (fxc c 7 rfl)
    · exact excCB_ok (fxc c 8 rfl)
  have hi : ∀ C, C ∈ ([] : List Addr) → InsK K C := by
    intro C hC
    simp at hC
  have v12 : mg "InvalidFrame" = some (.ref cInvalidFrame) := by
    have z := He.glo_ok X G (c.fact 12 (f := .glo "InvalidFrame") rfl)
    rw [of_decide_eq_true (fxc c 2 rfl)] at z
    exact z
  have v13 : mg "InvalidSetting" = some (.ref cInvalidSetting) := by
    have z := He.glo_ok X G (c.fact 13 (f := .glo "InvalidSetting") rfl)
    rw [of_decide_eq_true (fxc c 3 rfl)] at z
    exact z
  have v14 : mg "InvalidText" = some (.ref cInvalidText) := by
    have z := He.glo_ok X G (c.fact 14 (f := .glo "InvalidText") rfl)
    rw [of_decide_eq_true (fxc c 4 rfl)] at z
    exact z
  have v17 : mg "PaintError" = some (.ref cPaintError) := by
    have z := He.glo_ok X G (c.fact 17 (f := .glo "PaintError") rfl)
    rw [of_decide_eq_true (fxc c 1 rfl)] at z
    exact z
  have v73 : ∃ fd, FunD K "__init__" "InvalidText.__init__" (defArgs (imeth 4)) (defBody (imeth 4)) (defScope (imeth 4)) [] [] (He.ma K cInvalidText "__init__") fd := by
    have z := c.def_ 21 (d := fdi_InvalidText) rfl
    have e : He.ga K "InvalidText" = cInvalidText := of_decide_eq_true (fxc c 4 rfl)
    have e2 : He.fAd K ("InvalidText", some "__init__") = He.ma K cInvalidText "__init__" := by show He.ma K (He.ga K "InvalidText") "__init__" = _; rw [e]
    rw [← e2]
    exact z
  exact {
    b_ValueError := He.free_ok X G (c.fact 0 (f := .free "ValueError") rfl)
    b_abs := He.free_ok X G (c.fact 1 (f := .free "abs") rfl)
    b_all := He.free_ok X G (c.fact 2 (f := .free "all") rfl)
    b_bool := He.free_ok X G (c.fact 3 (f := .free "bool") rfl)
    b_int := He.free_ok X G (c.fact 4 (f := .free "int") rfl)
    b_isinstance := He.free_ok X G (c.fact 5 (f := .free "isinstance") rfl)
    b_len := He.free_ok X G (c.fact 6 (f := .free "len") rfl)
    b_list := He.free_ok X G (c.fact 7 (f := .free "list") rfl)
    b_range := He.free_ok X G (c.fact 8 (f := .free "range") rfl)
    b_repr := He.free_ok X G (c.fact 9 (f := .free "repr") rfl)
    b_str := He.free_ok X G (c.fact 10 (f := .free "str") rfl)
    b_tuple := He.free_ok X G (c.fact 11 (f := .free "tuple") rfl)
    g_InvalidFrame := v12
    g_InvalidSetting := v13
    g_InvalidText := v14
    g_MOST_DIGITS := He.int_ok X G (c.fact 15 (f := .int "MOST_DIGITS" 9) rfl)
    g_MOST_UNKNOWN := He.int_ok X G (c.fact 16 (f := .int "MOST_UNKNOWN" 3) rfl)
    g_PaintError := v17
    f__law_due := He.glo_ok X G (c.fact 18 (f := .glo "_law_due") rfl)
    f__law_number := He.glo_ok X G (c.fact 19 (f := .glo "_law_number") rfl)
    f__law_place := He.glo_ok X G (c.fact 20 (f := .glo "_law_place") rfl)
    f_is_whole := He.glo_ok X G (c.fact 21 (f := .glo "is_whole") rfl)
    f_is_frame := He.glo_ok X G (c.fact 22 (f := .glo "is_frame") rfl)
    f_need_frame := He.glo_ok X G (c.fact 23 (f := .glo "need_frame") rfl)
    f_whole_of := He.glo_ok X G (c.fact 24 (f := .glo "whole_of") rfl)
    f_word_at := He.glo_ok X G (c.fact 25 (f := .glo "word_at") rfl)
    f_read_setting := He.glo_ok X G (c.fact 26 (f := .glo "read_setting") rfl)
    f__law_right := He.glo_ok X G (c.fact 27 (f := .glo "_law_right") rfl)
    f_is_number := He.glo_ok X G (c.fact 28 (f := .glo "is_number") rfl)
    f_are_values := He.glo_ok X G (c.fact 29 (f := .glo "are_values") rfl)
    f_fits_setting := He.glo_ok X G (c.fact 30 (f := .glo "fits_setting") rfl)
    f_need_setting := He.glo_ok X G (c.fact 31 (f := .glo "need_setting") rfl)
    f_write_setting := He.glo_ok X G (c.fact 32 (f := .glo "write_setting") rfl)
    f__law_back_right := He.glo_ok X G (c.fact 33 (f := .glo "_law_back_right") rfl)
    f__law_bag := He.glo_ok X G (c.fact 34 (f := .glo "_law_bag") rfl)
    f__law_draw := He.glo_ok X G (c.fact 35 (f := .glo "_law_draw") rfl)
    f__law_changed := He.glo_ok X G (c.fact 36 (f := .glo "_law_changed") rfl)
    f__law_plane := He.glo_ok X G (c.fact 37 (f := .glo "_law_plane") rfl)
    f_law := He.glo_ok X G (c.fact 38 (f := .glo "law") rfl)
    d__law_due := c.def_ 0 (d := fd__law_due) rfl
    d__law_number := c.def_ 1 (d := fd__law_number) rfl
    d__law_place := c.def_ 2 (d := fd__law_place) rfl
    d_is_whole := c.def_ 3 (d := fd_is_whole) rfl
    d_is_frame := c.def_ 4 (d := fd_is_frame) rfl
    d_need_frame := c.def_ 5 (d := fd_need_frame) rfl
    d_whole_of := c.def_ 6 (d := fd_whole_of) rfl
    d_word_at := c.def_ 7 (d := fd_word_at) rfl
    d_read_setting := c.def_ 8 (d := fd_read_setting) rfl
    d__law_right := c.def_ 9 (d := fd__law_right) rfl
    d_is_number := c.def_ 10 (d := fd_is_number) rfl
    d_are_values := c.def_ 11 (d := fd_are_values) rfl
    d_fits_setting := c.def_ 12 (d := fd_fits_setting) rfl
    d_need_setting := c.def_ 13 (d := fd_need_setting) rfl
    d_write_setting := c.def_ 14 (d := fd_write_setting) rfl
    d__law_back_right := c.def_ 15 (d := fd__law_back_right) rfl
    d__law_bag := c.def_ 16 (d := fd__law_bag) rfl
    d__law_draw := c.def_ 17 (d := fd__law_draw) rfl
    d__law_changed := c.def_ 18 (d := fd__law_changed) rfl
    d__law_plane := c.def_ 19 (d := fd__law_plane) rfl
    d_law := c.def_ 20 (d := fd_law) rfl
    is_InvalidFrame := isOk_of (fxc c 9 rfl) (fun C b e => hi C (List.mem_map_of_mem (f := (·.1)) (lookup_mem e))) (fun C b e => he C (List.mem_map_of_mem (f := (·.1)) (lookup_mem e)))
    is_InvalidSetting := isOk_of (fxc c 10 rfl) (fun C b e => hi C (List.mem_map_of_mem (f := (·.1)) (lookup_mem e))) (fun C b e => he C (List.mem_map_of_mem (f := (·.1)) (lookup_mem e)))
    is_InvalidText := isOk_of (fxc c 11 rfl) (fun C b e => hi C (List.mem_map_of_mem (f := (·.1)) (lookup_mem e))) (fun C b e => he C (List.mem_map_of_mem (f := (·.1)) (lookup_mem e)))
    is_ValueError := isOk_of (fxc c 12 rfl) (fun C b e => hi C (List.mem_map_of_mem (f := (·.1)) (lookup_mem e))) (fun C b e => he C (List.mem_map_of_mem (f := (·.1)) (lookup_mem e)))
    is_bool := isOk_of (fxc c 13 rfl) (fun C b e => hi C (List.mem_map_of_mem (f := (·.1)) (lookup_mem e))) (fun C b e => he C (List.mem_map_of_mem (f := (·.1)) (lookup_mem e)))
    is_int := isOk_of (fxc c 14 rfl) (fun C b e => hi C (List.mem_map_of_mem (f := (·.1)) (lookup_mem e))) (fun C b e => he C (List.mem_map_of_mem (f := (·.1)) (lookup_mem e)))
    is_list := isOk_of (fxc c 15 rfl) (fun C b e => hi C (List.mem_map_of_mem (f := (·.1)) (lookup_mem e))) (fun C b e => he C (List.mem_map_of_mem (f := (·.1)) (lookup_mem e)))
    is_tuple := isOk_of (fxc c 16 rfl) (fun C b e => hi C (List.mem_map_of_mem (f := (·.1)) (lookup_mem e))) (fun C b e => he C (List.mem_map_of_mem (f := (·.1)) (lookup_mem e)))
    es_PaintError := exm_of (fxc c 17 rfl)
    r_InvalidFrame := excMkB_ok (fxc c 18 rfl)
    r_InvalidSetting := excMkB_ok (fxc c 19 rfl)
    x_place := ⟨fun C m => MD.ExcC.xf (he C (by simp only [xs_place, List.mem_cons, List.not_mem_nil, or_false] at m ⊢; simp [m])), fun C m => of_decide_eq_true (p := PySem.W.findIn K (.ref C) "place" = some none) (List.all_eq_true.mp (fxc c 20 rfl) C m)⟩
    i_InvalidText := iniCB_ok (fxc c 21 rfl)
    di_InvalidText := v73
  }
theorem holds (hG : ∀ ns : List Int, ns.length ≤ 63 → (∀ z ∈ ns, Builtin.Int.intBits z ≤ 1048576) → ∃ S', G_law [.lst (ns.map D.int)] [] = .ok (.bl true) S') : PySem.Challenge.rw_unknowncorners_k63_settings_written_and.Holds := by
  w_on; o_law
  refine HandSHeadRun.head_any (r := R) (q := qv) (H := hk) (ob := ob) (M := 20000) (loose := loose) (d := HandSHeadRun.topDef R.prog 31) (kwd := []) ob_eq
    (by kernel_rfl) (fun s => by kernel_rfl) run (by kernel_rfl) (by kernel_rfl) (by kernel_rfl) (by rfl) (by first | assumption | decide +kernel) (by decide +kernel) ⟨rfl, rfl, rfl, rfl, rfl, by decide +kernel⟩ ?hw ?hc
  case hw => w_witness2
  case hc =>
    refine MD.walk_G (l := PySem.Challenge.rw_unknowncorners_k63_settings_written_and) (n := 63) (k := 7) (x := "script") rfl (by decide) (by kernel_rfl) ⟨rfl, by decide, by decide⟩ ?F
    intro w mg fa h Y G hmg0
    obtain ⟨K, KX, c⟩ := Y
    have hmg : mg ("law" : PySem.Str) = some (.ref fa) := by
      have e : (HandSHeadRun.topDef R.prog 31).name = ("law" : PySem.Str) := by kernel_rfl
      rw [← e]
      exact hmg0
    have fx := facts KX G c
    obtain ⟨fd, F⟩ := fx.d_law
    have e := hmg.symm.trans fx.f_law
    cases e
    exact ⟨K, fd, G_law, KX, fxc c 0 rfl, fun s u => FunD.bindsA (ps := ["script"]) F (fun _ _ _ _ _ _ us hl => match us, hl with | [_], _ => rfl) s [u] rfl, hG, fun base _ _ => fn_law fx F⟩
end K63

set_option maxHeartbeats 400000
namespace K63
open PySem PySem.Spec PyProof.Rows L2 MD
theorem is_whole_int (v lo hi : Int) (S : Store) : G_is_whole [.int v, .int lo, .int hi] S = .ok (.bl (decide (lo ≤ v) && decide (v ≤ hi))) S := by
  simp [G_is_whole, m_is_whole, isF, kindD, ansF]
  by_cases h : lo ≤ v <;> simp [h]
theorem is_frame_ok (p q : Int) (S : Store) (hp : 1 ≤ p ∧ p ≤ 3) (hq : 1 ≤ q ∧ q ≤ 3) : G_is_frame [.tup [.int p, .int q]] S = .ok (.bl true) S := by
  simp [G_is_frame, m_is_frame, isF, kindD, ansF, lenF, mLc, lcL, neF, eqA, eqS, wipeE, is_whole_int, hp, hq, allF, blsF, blsD, sizeLine_eq]
theorem need_frame_ok (p q : Int) (S : Store) (hp : 1 ≤ p ∧ p ≤ 3) (hq : 1 ≤ q ∧ q ≤ 3) : G_need_frame [.tup [.int p, .int q]] S = .ok .non S := by
  simp [G_need_frame, m_need_frame, is_frame_ok p q S hp hq]
theorem is_number_int (v : Int) (S : Store) : G_is_number [.int v] S = .ok (.bl true) S := by
  simp [G_is_number, m_is_number, isF, kindD, ansF]
theorem are_values_ok (vs : List Int) (n : Int) (S : Store) (hn : (vs.length : Int) = n) (hl : vs.length ≤ 100) : G_are_values [.lst (vs.map .int), .int n] S = .ok (.bl true) S := by
  have h : lcL (ckOf (.lst (vs.map .int)) (vs.map D.int)) (gN 2) bYes (mApp (argN 1 G_is_number) (aCons (mVar 2) aNil)) [2] [some (.lst (vs.map .int)), some (.int n), none] (vs.map D.int) [] S = .ok ([] ++ (vs.map D.int).map fun _ => D.bl true) S := by
    refine lcL_all (by simp) _ _ _ (fun x hx => ?_) (by simp [sizeLine_eq]; omega)
    obtain ⟨v, _, rfl⟩ := List.mem_map.mp hx
    exact ⟨_, rfl, by simp [is_number_int, wipeE]⟩
  have e : ((vs.map D.int).map fun _ => D.bl true) = (vs.map fun _ => true).map D.bl := by simp
  rw [e, List.nil_append] at h
  simp [G_are_values, m_are_values, isF, kindD, ansF, lenF, eqF, eqA, eqS, hn, mLc, allF, blsF, -List.map_map, -blsD_map] at h ⊢
  simp [h, blsF]
theorem fits_ok (xs ys : List Int) (p q : Int) (S : Store) (hp : (xs.length : Int) = p) (hq : (ys.length : Int) = q) (lx : xs.length ≤ 100) (ly : ys.length ≤ 100) : G_fits_setting [.tup [.int p, .int q], .tup [.lst (xs.map .int), .lst (ys.map .int)]] S = .ok (.bl true) S := by
  simp [G_fits_setting, m_fits_setting, isF, kindD, ansF, lenF, neF, eqA, eqS, ixF, atI, ixN, are_values_ok _ _ S hp lx, are_values_ok _ _ S hq ly]
theorem need_setting_ok (xs ys : List Int) (p q : Int) (S : Store) (hp : (xs.length : Int) = p) (hq : (ys.length : Int) = q) (lx : xs.length ≤ 100) (ly : ys.length ≤ 100) : G_need_setting [.tup [.int p, .int q], .tup [.lst (xs.map .int), .lst (ys.map .int)]] S = .ok .non S := by
  simp [G_need_setting, m_need_setting, fits_ok xs ys p q S hp hq lx ly]
/-- the texts of values -/
def txts (vs : List Int) : List Str := vs.map fun v => Str.ofString (toString v)
theorem strs_ok (ck : Store → Bool) (i : Nat) (ρ : MD.Env) (vs : List Int) (S : Store) (hck : ck S = true) (hi : i < ρ.length) (hv : ∀ v ∈ vs, v.natAbs.log2 < 1920) (hl : vs.length ≤ 100) :
    lcL ck (gN i) bYes (mApp (one strF) (aCons (mVar i) aNil)) [i] ρ (vs.map D.int) [] S = .ok ((txts vs).map D.str) S := by
  have h := lcL_all (g := gN i) (te := mApp (one strF) (aCons (mVar i) aNil)) (vs := [i]) (ρ := ρ) hck (fun x => match x with
    | .int v => .str (Str.ofString (toString v))
    | _ => .non) (vs.map D.int) [] (fun x hx => by
      obtain ⟨v, hm, rfl⟩ := List.mem_map.mp hx
      refine ⟨_, rfl, ?_⟩
      simp [wipeE, hi, strF, hv v hm]) (by simp [sizeLine_eq]; omega)
  rw [h]
  simp [txts]
/-- a text of the values -/
def told (vs : List Int) : Str := Txt.join " " (txts vs)
structure Small (vs : List Int) : Prop where
  len : vs.length ≤ 6
  abs : ∀ v ∈ vs, v.natAbs < 10 ^ 40
theorem log_small {n : Nat} (h : n < 10 ^ 40) : n.log2 < 1920 := by
  by_cases h0 : n = 0
  · subst h0; decide
  · exact (Nat.log2_lt h0).mpr (Nat.lt_of_lt_of_le h (by decide +kernel))
theorem len_txt {v : Int} (h : v.natAbs < 10 ^ 40) : (Str.ofString (toString v)).length ≤ 41 := by
  have e : (Str.ofString (toString v)).length = (Str.ofString (toString v)).cps.toList.length := by simp [Str.length]
  have d := digits_len 39 v.natAbs h
  rw [e, cps_int]
  split <;> simp <;> omega
theorem sum_le {l : List Nat} {k : Nat} (h : ∀ x ∈ l, x ≤ k) : l.sum ≤ l.length * k := by
  induction l with
  | nil => simp
  | cons a r ih =>
    have h1 := h a List.mem_cons_self
    have h2 := ih fun x hx => h x (List.mem_cons_of_mem _ hx)
    simp only [List.sum_cons, List.length_cons, Nat.add_mul]
    omega
theorem sum_txts {vs : List Int} (s : Small vs) : ((txts vs).map (·.length)).sum + (txts vs).length * Str.length " " ≤ 1000 := by
  have h := sum_le (l := (txts vs).map (·.length)) (k := 41) (fun x hx => by
    obtain ⟨y, hy, rfl⟩ := List.mem_map.mp hx
    obtain ⟨v, hv, rfl⟩ := List.mem_map.mp hy
    exact len_txt (s.abs v hv))
  have hl := s.len
  have e : Str.length " " = 1 := by decide
  simp only [txts, List.length_map] at h ⊢
  rw [e]
  omega
theorem write_ok (xs ys : List Int) (p q : Int) (S : Store) (hp : 1 ≤ p ∧ p ≤ 3) (hq : 1 ≤ q ∧ q ≤ 3) (lx : (xs.length : Int) = p) (ly : (ys.length : Int) = q) (hs : Small (xs ++ ys)) :
    G_write_setting [.tup [.int p, .int q], .tup [.lst (xs.map .int), .lst (ys.map .int)]] S = .ok (.str (told (xs ++ ys))) S := by
  have z := hs.len
  have hz := sum_txts hs
  have l1 : xs.length + ys.length ≤ sizeLine := by rw [List.length_append] at z; rw [sizeLine_eq]; omega
  have h := strs_ok (ckOf (.lst (xs.map .int ++ ys.map .int)) (xs.map .int ++ ys.map .int)) 2 [some (.tup [.int p, .int q]), some (.tup [.lst (xs.map .int), .lst (ys.map .int)]), none] (xs ++ ys) S rfl (by simp) (fun v hv => log_small (hs.abs v hv)) (by omega)
  simp [G_write_setting, m_write_setting, need_frame_ok p q S hp hq, need_setting_ok xs ys p q S lx ly (by omega) (by omega), mMtS, mLc, ixF, atI, ixN, addF, newL, newLst, l1]
  rw [List.map_append] at h
  rw [h]
  have hz2 := Nat.le_trans hz (show 1000 ≤ 16777216 by decide)
  simp only [bind_ok, finL, Bool.false_eq_true, if_false, joinF, seqOf_lst, strsD_map, hz2, if_true, do_ok, endB_rt, told]
/-! words -/
def numD (w : Str) : D := match numOf w.cps.toList with
  | some i => .int i
  | none => .non
theorem numD_good {w : Str} (h : goodDigits (unsigned w.cps.toList) = true) : numD w = if (unsigned w.cps.toList).head? = some 48 ∧ w.cps.toList ≠ [48] then .non else .int (if w.cps.toList.head? = some 45 then -((NumText.digitsVal (unsigned w.cps.toList) : Nat) : Int) else ((NumText.digitsVal (unsigned w.cps.toList) : Nat) : Int)) := by
  unfold numD MD.numOf
  rw [if_pos h]
  by_cases h1 : (unsigned w.cps.toList).head? = some 48 ∧ w.cps.toList ≠ [48]
  · rw [if_pos h1, if_pos h1]
  · rw [if_neg h1, if_neg h1]
    by_cases h2 : w.cps.toList.head? = some 45
    · rw [if_pos h2, if_pos h2]
    · rw [if_neg h2, if_neg h2]
theorem numD_bad {w : Str} (h : goodDigits (unsigned w.cps.toList) = false) : numD w = .non := by
  unfold numD MD.numOf
  rw [if_neg (by rw [h]; simp)]
def isDig (c : Nat) : Bool := decide (48 ≤ c) && decide (c ≤ 57)
theorem dig_mem (c : Nat) : decide (c ∈ (Str.ofString "0123456789").cps.toList) = isDig c := by
  have e : (Str.ofString "0123456789").cps.toList = [48, 49, 50, 51, 52, 53, 54, 55, 56, 57] := by decide
  rw [e, Bool.eq_iff_iff]
  simp [isDig]
  omega
theorem in_dig (c : Nat) (S : Store) : inF (.str ⟨#[c]⟩) (.str "0123456789") S = .ok (.bl (isDig c)) S := by
  unfold inF inA
  simp only [StrLaws.found_one, dig_mem]
theorem nin_dig (c : Nat) (S : Store) : ninF (.str ⟨#[c]⟩) (.str "0123456789") S = .ok (.bl (!isDig c)) S := by
  unfold ninF inA
  simp only [StrLaws.found_one, dig_mem]
theorem good_iff (d : Str) : goodDigits d.cps.toList = (!decide (d = "") && !decide ((9 : Int) < (d.length : Int)) && d.cps.toList.all isDig) := by
  have e : (d = "") ↔ d.cps.toList = [] := by rw [str_ext_iff]; rfl
  unfold goodDigits
  rw [len_cps]
  have hf : (fun c => decide (48 ≤ c) && decide (c ≤ 57)) = isDig := rfl
  rw [hf, show decide (d = Str.ofString "") = decide (d.cps.toList = []) from decide_eq_decide.mpr e]
  generalize d.cps.toList = l
  cases l with
  | nil => rfl
  | cons c r =>
    by_cases h9 : (c :: r).length ≤ 9
    · have : ¬ (9 : Int) < ((c :: r).length : Int) := by omega
      rw [decide_eq_true h9, decide_eq_false this]
      simp
    · have : (9 : Int) < ((c :: r).length : Int) := by omega
      rw [decide_eq_false h9, decide_eq_true this]
      simp
theorem signs_all (ck : Store → Bool) (ρ : MD.Env) (d : Str) (S : Store) (hck : ck S = true) (hi : 2 < ρ.length) (hl : d.length ≤ sizeLine) :
    lcL ck (gN 2) bYes (mOp2 inF (mVar 2) (mC (.str "0123456789"))) [2] ρ (d.cps.toList.map fun c => .str ⟨#[c]⟩) [] S = .ok (d.cps.toList.map fun c => D.bl (isDig c)) S := by
  have h := lcL_all (g := gN 2) (te := mOp2 inF (mVar 2) (mC (.str "0123456789"))) (vs := [2]) (ρ := ρ) hck (fun x => match x with
    | .str z => .bl (isDig (z.cps.toList.headD 0))
    | _ => .non) (d.cps.toList.map fun c => D.str ⟨#[c]⟩) [] (fun x hx => by
      obtain ⟨c, _, rfl⟩ := List.mem_map.mp hx
      exact ⟨_, rfl, by simp [wipeE, hi, in_dig]⟩) (by rw [len_cps] at hl; simpa using hl)
  rw [h]
  simp
theorem rpre_len (w : Str) : (Txt.removeprefix w "-").length ≤ w.length := by
  rw [len_cps, len_cps, rpre_cps]
  unfold unsigned
  split
  · rename_i h; rw [h]; simp
  · exact Nat.le_refl _
theorem whole_of_ok (w : Str) (S : Store) (hw : w.length ≤ 1000000) : G_whole_of [.str w] S = .ok (numD w) S := by
  have hs : w.length ≤ sizeLine := by rw [sizeLine_eq]; omega
  have hd := rpre_len w
  have hdl : (Txt.removeprefix w "-").length ≤ sizeLine := by rw [sizeLine_eq]; omega
  have g := good_iff (Txt.removeprefix w "-")
  rw [rpre_cps] at g
  have sa := signs_all (fun _ => true) [some (.str w), some (.str (Txt.removeprefix w "-")), none] (Txt.removeprefix w "-") S rfl (by simp) hdl
  simp [G_whole_of, m_whole_of, mMtS, rprefF, hs, lenF, hdl, mLc, mItS, sgnF]
  rw [sa]
  simp only [bind_ok, finL, Bool.false_eq_true, if_false, one, allF_comp, boolD, rpre_cps]
  by_cases hg : goodDigits (unsigned w.cps.toList) = true
  · rw [hg] at g
    have g' := g.symm
    simp only [Bool.and_eq_true, Bool.not_eq_true', decide_eq_false_iff_not] at g'
    obtain ⟨⟨g1, g2⟩, g3⟩ := g'
    obtain ⟨v, i1, i2, i3, i4, i5⟩ := int_word hg
    rw [if_neg g1, if_neg g2, g3]
    simp [intF, i1, i2, strF, i3]
    have i4' : (Str.ofString v.repr = w) ↔ ¬ ((unsigned w.cps.toList).head? = some 48 ∧ w.cps.toList ≠ [48]) := i4
    have hn := numD_good hg
    by_cases hz : (unsigned w.cps.toList).head? = some 48 ∧ w.cps.toList ≠ [48]
    · rw [if_neg (fun e => i4'.mp e hz), hn, if_pos hz]; rfl
    · rw [if_pos (i4'.mpr hz), hn, if_neg hz, i5]; rfl
  · have hg' : goodDigits (unsigned w.cps.toList) = false := by simpa using hg
    rw [hg'] at g
    have hn : numD w = .non := numD_bad hg'
    rw [hn]
    by_cases g1 : Txt.removeprefix w (Str.ofString "-") = Str.ofString ""
    · simp [g1]
    · by_cases g2 : (9 : Int) < ((Txt.removeprefix w (Str.ofString "-")).length : Int)
      · simp [g1, g2]
      · have g3 : (unsigned w.cps.toList).all isDig = false := by
          cases z : (unsigned w.cps.toList).all isDig with
          | false => rfl
          | true => simp [g1, g2, z] at g
        rw [if_neg g1, if_neg g2, g3]
        simp
theorem cut1 (z : Str) : (cutS z none (some 1)).cps.toList = z.cps.toList.take 1 := by
  unfold cutS
  simp only [HT.sIx_none, List.drop_zero, Nat.sub_zero]
  have e : HT.sIx z.length z.length (some 1) = min 1 z.length := HT.sIx_nat _ _ 1
  rw [e, len_cps]
  cases z.cps.toList with
  | nil => rfl
  | cons a r => simp
theorem cutFrom (z : Str) (k : Nat) : (cutS z (some (k : Int)) none).cps.toList = z.cps.toList.drop k := by
  unfold cutS
  rw [HT.sIx_nat, HT.sIx_none, len_cps]
  simp only [List.toList_toArray]
  by_cases h : k ≤ z.cps.toList.length
  · rw [Nat.min_eq_left h, List.take_of_length_le]
    simp
  · rw [Nat.min_eq_right (by omega), List.drop_eq_nil_of_le (Nat.le_refl _), List.drop_eq_nil_of_le (by omega)]
    simp
theorem head_cut (z : Str) (c : Nat) : (cutS z none (some 1) = (⟨#[c]⟩ : Str)) ↔ z.cps.toList.head? = some c := by
  rw [str_ext_iff, cut1]
  cases z.cps.toList with
  | nil => simp
  | cons a r => simp
theorem lit_minus : (Str.ofString "-") = (⟨#[45]⟩ : Str) := by decide
theorem lit_zero : (Str.ofString "0") = (⟨#[48]⟩ : Str) := by decide
/-- the law's way to take the sign off -/
theorem cut_sign (w : Str) : (cutS w (some (if w.cps.toList.head? = some 45 then 1 else 0)) none).cps.toList = unsigned w.cps.toList := by
  by_cases h : w.cps.toList.head? = some 45
  · rw [if_pos h]
    have := cutFrom w 1
    rw [show ((1 : Nat) : Int) = 1 from rfl] at this
    rw [this]
    cases q : w.cps.toList with
    | nil => rw [q] at h; cases h
    | cons a r =>
      rw [q] at h
      cases h
      rfl
  · rw [if_neg h]
    have := cutFrom w 0
    rw [show ((0 : Nat) : Int) = 0 from rfl] at this
    rw [this, List.drop_zero]
    unfold unsigned
    split
    · rename_i q; rw [q] at h; simp at h
    · rfl
theorem signs_odd (ck : Store → Bool) (ρ : MD.Env) (d : Str) (S : Store) (hck : ck S = true) (hi : 2 < ρ.length) (hl : d.length ≤ sizeLine) :
    lcL ck (gN 2) (bVal (mOp2 ninF (mVar 2) (mC (.str "0123456789")))) (mVar 2) [2] ρ (d.cps.toList.map fun c => .str ⟨#[c]⟩) [] S = .ok (((d.cps.toList.filter fun c => !isDig c).map fun c => (⟨#[c]⟩ : Str)).map D.str) S := by
  have h := lcL_map (g := gN 2) (tt := bVal (mOp2 ninF (mVar 2) (mC (.str "0123456789")))) (te := mVar 2) (vs := [2]) (ρ := ρ) hck (fun x => match x with
    | .str z => !isDig (z.cps.toList.headD 0)
    | _ => false) id (d.cps.toList.map fun c => D.str ⟨#[c]⟩) [] (fun x hx => by
      obtain ⟨c, _, rfl⟩ := List.mem_map.mp hx
      exact ⟨_, rfl, by simp [wipeE, hi, nin_dig], fun _ => by simp [wipeE, hi]⟩) (by rw [len_cps] at hl; simpa using hl)
  rw [h, List.filter_map]
  simp [Function.comp_def]
theorem law_number_ok (w : Str) (S : Store) (hw : w.length ≤ 1000000) (ho : PyData.strOk w = true) : G__law_number [.str w] S = .ok (numD w) S := by
  have hs : w.length ≤ sizeLine := by rw [sizeLine_eq]; omega
  have c1 := head_cut w 45
  rw [← lit_minus] at c1
  let d : Str := cutS w (some (if w.cps.toList.head? = some 45 then 1 else 0)) none
  have dc : d.cps.toList = unsigned w.cps.toList := cut_sign w
  have hdl : d.length ≤ sizeLine := by
    rw [len_cps, dc]
    rw [len_cps] at hs
    unfold unsigned
    split
    · rename_i q; rw [q] at hs; simp at hs; omega
    · exact hs
  have g := good_iff d
  rw [dc] at g
  have sa := signs_odd (fun _ => true) [some (.str w), some (.str d), none] d S rfl (by simp) hdl
  have e1 : (decide (cutS w none (some 1) = Str.ofString "-")) = decide (w.cps.toList.head? = some 45) := decide_eq_decide.mpr c1
  have ei : (if (decide (w.cps.toList.head? = some 45)) = true then (1 : Int) else 0) = if w.cps.toList.head? = some 45 then 1 else 0 := by simp
  have ned : (cutS d none (some 1) = Str.ofString "0") ↔ (unsigned w.cps.toList).head? = some 48 := by
    rw [lit_zero, head_cut, dc]
  have nw : (w = Str.ofString "0") ↔ w.cps.toList = [48] := by rw [str_ext_iff, lit_zero]
  have od : ∀ x ∈ (d.cps.toList.filter fun c => !isDig c).map fun c => (⟨#[c]⟩ : Str), PyData.strOk x = true := by
    intro x hx
    obtain ⟨c, hc, rfl⟩ := List.mem_map.mp hx
    have hc' := (List.mem_filter.mp hc).1
    rw [dc] at hc'
    have hw' : c ∈ w.cps.toList := by
      unfold unsigned at hc'
      split at hc'
      · rename_i q; rw [q]; exact List.mem_cons_of_mem _ hc'
      · exact hc'
    unfold PyData.strOk at ho ⊢
    rw [← Array.all_toList] at ho
    have := List.all_eq_true.mp ho c hw'
    simpa using this
  have en : (neF (.lst (((d.cps.toList.filter fun c => !isDig c).map fun c => (⟨#[c]⟩ : Str)).map D.str)) (.lst []) S) = .ok (.bl (!(unsigned w.cps.toList).all isDig)) S := by
    have z := eqA_strs S _ [] od (by simp)
    unfold neF
    rw [show (D.lst []) = D.lst (([] : List Str).map D.str) from rfl, z]
    simp only [Res.ok.injEq, D.bl.injEq, and_true]
    rw [dc, Bool.eq_iff_iff]
    simp
  simp [G__law_number, m__law_number, mSl, oNone, oSome, MD.intD, slF, hs, e1, intF, lenF, mLc, mItS, sgnF, ei]
  rw [show cutS w (some (if w.cps.toList.head? = some 45 then 1 else 0)) none = d from rfl]
  simp [hdl]
  rw [sa]
  simp only [bind_ok, finL, Bool.false_eq_true, if_false, newL, newLst, List.length_nil, Nat.zero_le, if_true, en, boolD]
  by_cases hg : goodDigits (unsigned w.cps.toList) = true
  · rw [hg] at g
    have g' := g.symm
    simp only [Bool.and_eq_true, Bool.not_eq_true', decide_eq_false_iff_not] at g'
    obtain ⟨⟨g1, g2⟩, g3⟩ := g'
    obtain ⟨v, i1, i2, i3, i4, i5⟩ := int_word hg
    rw [if_neg g1, if_neg g2, g3, numD_good hg]
    have hi : intF (.str w) S = .ok (.int v) S := by simp [intF, i1, i2]
    simp [hdl]
    by_cases hz : (unsigned w.cps.toList).head? = some 48
    · by_cases hz2 : w.cps.toList = [48]
      · simp only [ned.mpr hz, nw.mpr hz2, decide_true, if_true, bind_ok, neF_str, Bool.not_true, boolD, Bool.false_eq_true, if_false, one, hz2, ne_eq, not_true_eq_false, and_false]
        rw [← nw.mpr hz2, hi]
        simp [i5, hz2]
      · simp [ned.mpr hz, hz, hz2, mt nw.mp hz2]
    · simp [mt ned.mp hz, hz, hi]
      rw [i5]
  · have hg' : goodDigits (unsigned w.cps.toList) = false := by simpa using hg
    rw [hg'] at g
    rw [numD_bad hg']
    by_cases g1 : d = Str.ofString ""
    · simp [g1]
    · by_cases g2 : (9 : Int) < (d.length : Int)
      · simp [g1, g2]
      · have g3 : (unsigned w.cps.toList).all isDig = false := by
          cases z : (unsigned w.cps.toList).all isDig with
          | false => rfl
          | true => simp [g1, g2, z] at g
        rw [if_neg g1, if_neg g2, g3]
        simp
end K63

set_option maxHeartbeats 400000
namespace K63
open PySem PySem.Spec PyProof.Rows L2 MD
abbrev badText (k : Int) : Exn := ⟨68, some [("place", .int k)]⟩
theorem word_at_ok (ws : List Str) (i : Nat) (S : Store) : G_word_at [.lst (ws.map .str), .int i] S = match ws[i]? with
    | some w => .ok (.str w) S
    | none => .exc (badText ws.length) S := by
  simp [G_word_at, m_word_at, ixF, atI_natE]
  cases q : ws[i]? with
  | none =>
    have h := List.getElem?_eq_none_iff.mp q
    simp [h]
  | some w =>
    have h := (List.getElem?_eq_some_iff.mp q).1
    simp [Nat.not_le.mpr h, atI_natE, q]
/-- the program's walk: the values, or the place that is told -/
def scanL (ws : List Str) : Nat → Nat → List Int → Int ⊕ List Int
  | 0, _, acc => .inr acc
  | m + 1, at_, acc => match ws[at_]? with
    | none => .inl ws.length
    | some w => match MD.numOf w.cps.toList with
      | none => .inl at_
      | some v => scanL ws m (at_ + 1) (acc ++ [v])
noncomputable abbrev rdBody : SM := sSeq (sSet (mApp (argN 1 G_whole_of) (aCons (mApp (argN 2 G_word_at) (aCons (mVar 2) (aCons (mVar 4) (aNil)))) (aNil))) 5)
  (sSeq (sIf (bVal (mOp2 isNF (mVar 5) (mC .non))) (sRaiseF cInvalidText "place" (mVar 4)) (sNx))
  (sExp (mMtL appF (mVar 3) (aCons (mVar 5) (aNil)))))
/-- one turn -/
theorem rd_turn (ws : List Str) (hws : ∀ w ∈ ws, w.length ≤ 1000000) (f t : D) (S : Store) (acc : List Int) (at_ : Nat) (o : Option D) (hacc : acc.length < 100) :
    rdBody [some f, some t, some (.lst (ws.map .str)), some (.loc S.length), some (.int at_), o] (S ++ [.lst (acc.map .int)]) = match ws[at_]? with
    | none => .exc (badText ws.length) [some f, some t, some (.lst (ws.map .str)), some (.loc S.length), some (.int at_), o] (S ++ [.lst (acc.map .int)])
    | some w => match MD.numOf w.cps.toList with
      | none => .exc (badText at_) [some f, some t, some (.lst (ws.map .str)), some (.loc S.length), some (.int at_), some .non] (S ++ [.lst (acc.map .int)])
      | some v => .nx [some f, some t, some (.lst (ws.map .str)), some (.loc S.length), some (.int at_), some (.int v)] (S ++ [.lst ((acc ++ [v]).map .int)]) := by
  cases q : ws[at_]? with
  | none => simp [word_at_ok, q]
  | some w =>
    have hw := hws w (List.mem_of_getElem? q)
    simp only [rdBody]
    cases z : MD.numOf w.cps.toList with
    | none => simp [word_at_ok, q, whole_of_ok w _ hw, numD, z, isNF]
    | some v =>
      have hl : acc.length < sizeLine := by rw [sizeLine_eq]; omega
      simp [word_at_ok, q, whole_of_ok w _ hw, numD, z, isNF, mMtL, lstOf, appF, hl]
theorem rd_loop (ws : List Str) (hws : ∀ w ∈ ws, w.length ≤ 1000000) (f t : D) (S : Store) : ∀ (m at_ : Nat) (acc : List Int) (x o : Option D), acc.length + m < 100 →
    match scanL ws m at_ acc with
    | .inl k => ∃ ρ T, forL (fun _ => true) (gN 4) rdBody (rngD (at_ : Int) m) [some f, some t, some (.lst (ws.map .str)), some (.loc S.length), x, o] (S ++ [.lst (acc.map .int)]) = .exc (badText k) ρ (S ++ T)
    | .inr vs => ∃ x' o', forL (fun _ => true) (gN 4) rdBody (rngD (at_ : Int) m) [some f, some t, some (.lst (ws.map .str)), some (.loc S.length), x, o] (S ++ [.lst (acc.map .int)]) = .nx [some f, some t, some (.lst (ws.map .str)), some (.loc S.length), x', o'] (S ++ [.lst (vs.map .int)]) ∧ vs.length = acc.length + m
  | 0, at_, acc, x, o, h => by
    simp only [scanL, rngD_zero]
    exact ⟨x, o, by simp [forL], by simp⟩
  | m + 1, at_, acc, x, o, h => by
    have turn := rd_turn ws hws f t S acc at_ o (by omega)
    rw [rngD_succ]
    unfold forL
    simp only [if_true, gN, List.set_cons_succ, List.set_cons_zero]
    rw [turn]
    unfold scanL
    cases q : ws[at_]? with
    | none => exact ⟨_, _, rfl⟩
    | some w =>
      cases z : MD.numOf w.cps.toList with
      | none => simp only [z]; exact ⟨_, _, rfl⟩
      | some v =>
        have ih := rd_loop ws hws f t S m (at_ + 1) (acc ++ [v]) (some (.int at_)) (some (.int v)) (by simp; omega)
        simp only [z]
        have e : ((at_ : Int) + 1) = ((at_ + 1 : Nat) : Int) := by omega
        rw [e]
        cases r : scanL ws m (at_ + 1) (acc ++ [v]) with
        | inl k =>
          simp only [r] at ih ⊢
          exact ih
        | inr vs =>
          simp only [r] at ih ⊢
          obtain ⟨x', o', h1, h2⟩ := ih
          exact ⟨x', o', h1, by simp at h2; omega⟩
noncomputable abbrev rdTail : SM := sSeq (sIf (bVal (mOp2 gtF (mApp (one lenF) (aCons (mVar 2) (aNil))) (mApp (one lenF) (aCons (mVar 3) (aNil))))) (sRaiseF cInvalidText "place" (mApp (one lenF) (aCons (mVar 3) (aNil)))) (sNx))
  (sRet (mApp newTup (aCons (mSl true (mVar 3) (oNone) (oSome (mOp2 ixF (mVar 0) (mC (.int 0))))) (aCons (mSl true (mVar 3) (oSome (mOp2 ixF (mVar 0) (mC (.int 0)))) (oNone)) (aNil)))))
noncomputable abbrev rdHead : SM := sPar 2 3 (aCons (mMtS (splitF false) (mVar 1) (aCons (mC (.str " ")) (aNil))) (aCons (mApp (newL true) (aNil)) aNil))
noncomputable abbrev rdLoop : SM := sFor (mItA rng1F (aCons (mOp2 (addF false) (mOp2 ixF (mVar 0) (mC (.int 0))) (mOp2 ixF (mVar 0) (mC (.int 1)))) (aNil))) (gN 4) rdBody
theorem m_rd : m_read_setting = sSeq (sExp (mApp (argN 1 G_need_frame) (aCons (mVar 0) (aNil)))) (sSeq rdHead (sSeq rdLoop rdTail)) := rfl
theorem tail_exc (ws : List Str) (a b : Nat) (t x' o' : Option D) (vs : List Int) (S : Store) (hv : vs.length < ws.length) :
   rdTail [some (.tup [.int a, .int b]), t, some (.lst (ws.map .str)), some (.loc S.length), x', o'] (S ++ [.lst (vs.map .int)]) = .exc (badText vs.length) [some (.tup [.int a, .int b]), t, some (.lst (ws.map .str)), some (.loc S.length), x', o'] (S ++ [.lst (vs.map .int)]) := by
  simp [lenF, lstOf, seqOf, hv]
theorem tail_ok (ws : List Str) (a b : Nat) (t x' o' : Option D) (vs : List Int) (S : Store) (hv : vs.length = a + b) (hw : ws.length ≤ vs.length) (hb : a + b ≤ 1000) :
   rdTail [some (.tup [.int a, .int b]), t, some (.lst (ws.map .str)), some (.loc S.length), x', o'] (S ++ [.lst (vs.map .int)]) = .rt (.tup [.loc (S.length + 1), .loc (S.length + 2)]) (S ++ [.lst (vs.map .int), .lst ((vs.take a).map .int), .lst ((vs.drop a).map .int)]) := by
  have c1 := cutD_lo (vs.map .int) a (by simp; omega)
  have c2 := cutD_hi (vs.map .int) a (by simp; omega)
  have n1 := fun S => newCel_eq (xs := (vs.map D.int).take a) (by simp; omega) S
  have n2 := fun S => newCel_eq (xs := (vs.map D.int).drop a) (by simp; omega) S
  have n3 := fun x y S => newTup_eq (xs := [x, y]) (by simp) S
  have z : ¬ (vs.length < ws.length) := by omega
  have e0 : atI [D.int a, D.int b] 0 = some (.int a) := rfl
  simp [lenF, lstOf, seqOf, z, mSl, oNone, oSome, ixF, MD.intD, slF, newL, e0, c1, c2, n1, n2, n3]
theorem head_ok (a b : Nat) (t : Str) (ws : List Str) (S : Store) (hsp : ∀ S, splitF false t [.str (Str.ofString " ")] S = .ok (.lst (ws.map .str)) S) :
   rdHead [some (.tup [.int a, .int b]), some (.str t), none, none, none, none] S = .nx [some (.tup [.int a, .int b]), some (.str t), some (.lst (ws.map .str)), some (.loc S.length), none, none] (S ++ [.lst []]) := by
  have n1 := fun S => newCel_eq (xs := []) (by simp) S
  simp [mMtS, hsp, newL, n1]
theorem rd_unf (a b : Nat) (t : Str) (ws : List Str) (S : Store) (ha : 1 ≤ a ∧ a ≤ 3) (hb : 1 ≤ b ∧ b ≤ 3) (hsp : ∀ S, splitF false t [.str (Str.ofString " ")] S = .ok (.lst (ws.map .str)) S) :
  G_read_setting [.tup [.int a, .int b], .str t] S = endB (sSeq rdLoop rdTail [some (.tup [.int a, .int b]), some (.str t), some (.lst (ws.map .str)), some (.loc S.length), none, none] (S ++ [.lst []])) := by
  have e : G_read_setting [.tup [.int a, .int b], .str t] S = endB (m_read_setting ([D.tup [.int a, .int b], .str t].map some ++ List.replicate (6 - [D.tup [.int a, .int b], .str t].length) none) S) := by rw [G_read_setting, runB]
  have e2 : ([D.tup [.int a, .int b], .str t].map some ++ List.replicate (6 - [D.tup [.int a, .int b], .str t].length) none) = [some (.tup [.int a, .int b]), some (.str t), none, none, none, none] := rfl
  have nf := need_frame_ok (a : Int) (b : Int) S (by omega) (by omega)
  have s1 : sExp (mApp (argN 1 G_need_frame) (aCons (mVar 0) (aNil))) [some (.tup [.int a, .int b]), some (.str t), none, none, none, none] S = .nx [some (.tup [.int a, .int b]), some (.str t), none, none, none, none] S := by simp [nf]
  have e3 : endB (sSeq (sExp (mApp (argN 1 G_need_frame) (aCons (mVar 0) (aNil)))) (sSeq rdHead (sSeq rdLoop rdTail)) [some (.tup [.int a, .int b]), some (.str t), none, none, none, none] S) = endB (sSeq rdLoop rdTail [some (.tup [.int a, .int b]), some (.str t), some (.lst (ws.map .str)), some (.loc S.length), none, none] (S ++ [.lst []])) := by rw [seq_nx s1, seq_nx (head_ok a b t ws S hsp)]
  rw [e, m_rd, e2]
  exact e3
theorem loop_eq (a b : Nat) (ρ : MD.Env) (S : Store) (ha : 1 ≤ a ∧ a ≤ 3) (hb : 1 ≤ b ∧ b ≤ 3) : rdLoop (some (.tup [.int a, .int b]) :: ρ) S = forL (fun _ => true) (gN 4) rdBody (rngD 0 (a + b)) (some (.tup [.int a, .int b]) :: ρ) S := by
  have r1 := rng1_run ((a : Int) + (b : Int)) (by omega) S
  have r2 : ((a : Int) + (b : Int)).toNat = a + b := by omega
  have e0 : atI [D.int a, D.int b] 0 = some (.int a) := rfl
  have e1 : atI [D.int a, D.int b] 1 = some (.int b) := rfl
  rw [r2] at r1
  have h : aCons (mOp2 (addF false) (mOp2 ixF (mVar 0) (mC (.int 0))) (mOp2 ixF (mVar 0) (mC (.int 1)))) aNil (some (.tup [.int a, .int b]) :: ρ) S = .ok [.int ((a : Int) + (b : Int))] S := by simp [ixF, e0, e1, addF, seqOf]
  exact for_eq ((itA_eq h).trans r1)
theorem read_core (a b : Nat) (t : Str) (ws : List Str) (S : Store) (ha : 1 ≤ a ∧ a ≤ 3) (hb : 1 ≤ b ∧ b ≤ 3) (hsp : ∀ S, splitF false t [.str (Str.ofString " ")] S = .ok (.lst (ws.map .str)) S) (hws : ∀ w ∈ ws, w.length ≤ 1000000) :
    match scanL ws (a + b) 0 [] with
    | .inl k => ∃ T, G_read_setting [.tup [.int a, .int b], .str t] S = .exc (badText k) (S ++ T)
    | .inr vs => if a + b < ws.length then ∃ T, G_read_setting [.tup [.int a, .int b], .str t] S = .exc (badText ((a + b : Nat) : Int)) (S ++ T)
      else vs.length = a + b ∧ G_read_setting [.tup [.int a, .int b], .str t] S = .ok (.tup [.loc (S.length + 1), .loc (S.length + 2)]) (S ++ [.lst (vs.map .int), .lst ((vs.take a).map .int), .lst ((vs.drop a).map .int)]) := by
  have lp := rd_loop ws hws (.tup [.int a, .int b]) (.str t) S (a + b) 0 [] none none (by simp; omega)
  have ru := rd_unf a b t ws S ha hb hsp
  simp only [List.map_nil, show ((0 : Nat) : Int) = 0 from rfl] at lp
  cases q : scanL ws (a + b) 0 [] with
  | inl k =>
    simp only [q] at lp ⊢
    obtain ⟨ρ, T, e⟩ := lp
    exact ⟨T, by rw [ru, seq_exc ((loop_eq a b _ _ ha hb).trans e)]; rfl⟩
  | inr vs =>
    simp only [q] at lp ⊢
    obtain ⟨x', o', e, hv⟩ := lp
    have hv' : vs.length = a + b := by simpa using hv
    rw [seq_nx ((loop_eq a b _ _ ha hb).trans e)] at ru
    by_cases hl : a + b < ws.length
    · rw [if_pos hl]
      refine ⟨[.lst (vs.map .int)], ?_⟩
      rw [ru, tail_exc ws a b _ _ _ vs S (by omega), hv']
      rfl
    · rw [if_neg hl]
      refine ⟨hv', ?_⟩
      rw [ru, tail_ok ws a b _ _ _ vs S hv' (by omega) (by omega)]
      rfl
end K63

set_option maxHeartbeats 400000
namespace K63
open PySem PySem.Spec PyProof.Rows L2 MD
/-! ### the law's own walk -/
def placeL (ws : List Str) (many : Nat) : Nat → Nat → Option Nat
  | 0, _ => none
  | n + 1, k => if many ≤ k then some k else match ws[k]? with
    | none => none
    | some w => match MD.numOf w.cps.toList with
      | none => some k
      | some _ => placeL ws many n (k + 1)
def placeR (ws : List Str) (many : Nat) : Option Nat := match placeL ws many ws.length 0 with
  | some k => some k
  | none => if ws.length = many then none else some ws.length
structure Wd (w : Str) : Prop where
  len : w.length ≤ 1000000
  ok : PyData.strOk w = true
noncomputable abbrev plBody : SM := sIf (bOr (bVal (mOp2 geF (mVar 3) (mVar 2))) (bVal (mOp2 isNF (mApp (argN 1 G__law_number) (aCons (mOp2 ixF (mVar 1) (mVar 3)) (aNil))) (mC .non)))) (sRet (mVar 3)) (sNx)
theorem ix_words (ws : List Str) (k : Nat) (w : Str) (S : Store) (h : ws[k]? = some w) : ixF (.lst (ws.map .str)) (.int k) S = .ok (.str w) S := by
  simp [ixF, MD.atI_natE, h]
theorem pl_turn (ws : List Str) (hws : ∀ w ∈ ws, Wd w) (f : Option D) (many k : Nat) (S : Store) (hk : k < ws.length) :
    plBody [f, some (.lst (ws.map .str)), some (.int many), some (.int k)] S = if many ≤ k then .rt (.int k) S else match ws[k]? with
    | none => .bad
    | some w => match MD.numOf w.cps.toList with
      | none => .rt (.int k) S
      | some _ => .nx [f, some (.lst (ws.map .str)), some (.int many), some (.int k)] S := by
  obtain ⟨w, q⟩ : ∃ w, ws[k]? = some w := ⟨ws[k], List.getElem?_eq_getElem hk⟩
  have hw := hws w (List.mem_of_getElem? q)
  have e1 := fun S => ix_words ws k w S q
  have e2 := fun S => law_number_ok w S hw.len hw.ok
  by_cases h : many ≤ k
  · simp [h]
  · rw [if_neg h, q]
    cases z : MD.numOf w.cps.toList with
    | none => simp [h, e1, e2, numD, z, isNF]
    | some v => simp [h, e1, e2, numD, z, isNF]
theorem pl_loop (ws : List Str) (hws : ∀ w ∈ ws, Wd w) (f : Option D) (many : Nat) (S : Store) : ∀ (n k : Nat) (o : Option D), k + n = ws.length →
    match placeL ws many n k with
    | some p => forL (fun _ => true) (gN 3) plBody (rngD (k : Int) n) [f, some (.lst (ws.map .str)), some (.int many), o] S = .rt (.int p) S
    | none => ∃ o', forL (fun _ => true) (gN 3) plBody (rngD (k : Int) n) [f, some (.lst (ws.map .str)), some (.int many), o] S = .nx [f, some (.lst (ws.map .str)), some (.int many), o'] S
  | 0, k, o, h => by
    simp only [placeL, rngD_zero]
    exact ⟨o, by simp [forL]⟩
  | n + 1, k, o, h => by
    have turn := pl_turn ws hws f many k S (by omega)
    have hd : forL (fun _ => true) (gN 3) plBody (rngD (k : Int) (n + 1)) [f, some (.lst (ws.map .str)), some (.int many), o] S = match plBody [f, some (.lst (ws.map .str)), some (.int many), some (.int k)] S with
        | .nx ρ2 S2 => forL (fun _ => true) (gN 3) plBody (rngD ((k : Int) + 1) n) ρ2 S2
        | .ct ρ2 S2 => forL (fun _ => true) (gN 3) plBody (rngD ((k : Int) + 1) n) ρ2 S2
        | .bk ρ2 S2 => .nx ρ2 S2
        | q => q := by
      rw [rngD_succ]
      conv => lhs; unfold forL
      rfl
    rw [hd, turn]
    unfold placeL
    by_cases hm : many ≤ k
    · rw [if_pos hm, if_pos hm]
    · rw [if_neg hm, if_neg hm]
      obtain ⟨w, q⟩ : ∃ w, ws[k]? = some w := ⟨ws[k], List.getElem?_eq_getElem (by omega)⟩
      rw [q]
      cases z : MD.numOf w.cps.toList with
      | none => simp only [z]
      | some v =>
        have ih := pl_loop ws hws f many S n (k + 1) (some (.int k)) (by omega)
        simp only [z]
        have e : ((k : Int) + 1) = ((k + 1 : Nat) : Int) := by omega
        rw [e]
        exact ih
def placeD (o : Option Nat) : D := match o with
  | some k => .int k
  | none => .non
theorem place_ok (a b : Nat) (ws : List Str) (hws : ∀ w ∈ ws, Wd w) (hl : ws.length ≤ 1000000) (S : Store) :
    G__law_place [.tup [.int a, .int b], .lst (ws.map .str)] S = .ok (placeD (placeR ws (a + b))) S := by
  have lp := pl_loop ws hws (some (.tup [.int a, .int b])) (a + b) S ws.length 0 none (by omega)
  have e0 : atI [D.int a, D.int b] 0 = some (.int a) := rfl
  have e1 : atI [D.int a, D.int b] 1 = some (.int b) := rfl
  have r1 := rng1_run (ws.length : Int) (by omega) S
  rw [Int.toNat_natCast] at r1
  have s1 : sSet (mOp2 (addF false) (mOp2 ixF (mVar 0) (mC (.int 0))) (mOp2 ixF (mVar 0) (mC (.int 1)))) 2 [some (.tup [.int a, .int b]), some (.lst (ws.map .str)), none, none] S = .nx [some (.tup [.int a, .int b]), some (.lst (ws.map .str)), some (.int ((a + b : Nat) : Int)), none] S := by
    simp [ixF, e0, e1, addF, seqOf]
  have s2 : aCons (mApp (one lenF) (aCons (mVar 1) (aNil))) aNil [some (.tup [.int a, .int b]), some (.lst (ws.map .str)), some (.int ((a + b : Nat) : Int)), none] S = .ok [.int ws.length] S := by simp
  have s3 := for_eq (g := gN 3) (body := plBody) ((itA_eq s2).trans r1)
  have hd : G__law_place [.tup [.int a, .int b], .lst (ws.map .str)] S = endB (m__law_place [some (.tup [.int a, .int b]), some (.lst (ws.map .str)), none, none] S) := by rw [G__law_place, runB]; rfl
  rw [hd, m__law_place, seq_nx s1]
  simp only [Int.natCast_zero] at lp
  unfold placeR
  cases q : placeL ws (a + b) ws.length 0 with
  | some p =>
    simp only [q] at lp ⊢
    rw [seq_rt (s3.trans lp)]
    rfl
  | none =>
    simp only [q] at lp ⊢
    obtain ⟨o', lp⟩ := lp
    rw [seq_nx (s3.trans lp)]
    by_cases hn : ws.length = a + b
    · have : (ws.length : Int) = (a : Int) + (b : Int) := by omega
      simp [hn, placeD]
    · have : ¬ (ws.length : Int) = (a : Int) + (b : Int) := by omega
      simp [hn, placeD, this]
/-- both walks -/
def valOf (w : Str) : Int := (MD.numOf w.cps.toList).getD 0
theorem scan_place (ws : List Str) (many : Nat) : ∀ (m k : Nat) (acc : List Int), k + m = many → k ≤ ws.length →
    match scanL ws m k acc with
    | .inl p => (match placeL ws many (ws.length - k) k with
      | some q => (q : Int) = p
      | none => ws.length ≠ many ∧ (ws.length : Int) = p)
    | .inr vs => vs = acc ++ ((ws.drop k).take m).map valOf ∧ k + m ≤ ws.length ∧ (∀ w ∈ (ws.drop k).take m, ∃ v, MD.numOf w.cps.toList = some v) ∧ (if many < ws.length then placeL ws many (ws.length - k) k = some many else placeL ws many (ws.length - k) k = none)
  | 0, k, acc, h, hk => by
    simp only [scanL]
    refine ⟨by simp, by omega, by simp, ?_⟩
    by_cases hl : many < ws.length
    · rw [if_pos hl]
      obtain ⟨n, hn⟩ : ∃ n, ws.length - k = n + 1 := ⟨ws.length - k - 1, by omega⟩
      rw [hn]
      unfold placeL
      rw [if_pos (by omega)]
      simp; omega
    · rw [if_neg hl]
      have : ws.length - k = 0 := by omega
      rw [this]
      rfl
  | m + 1, k, acc, h, hk => by
    unfold scanL
    cases q : ws[k]? with
    | none =>
      have hl := List.getElem?_eq_none_iff.mp q
      have : ws.length - k = 0 := by omega
      simp only [this, placeL]
      exact ⟨by omega, trivial⟩
    | some w =>
      have hl := (List.getElem?_eq_some_iff.mp q).1
      obtain ⟨n, hn⟩ : ∃ n, ws.length - k = n + 1 := ⟨ws.length - k - 1, by omega⟩
      have hd : ws.drop k = w :: ws.drop (k + 1) := by
        rw [List.drop_eq_getElem_cons hl]
        rw [List.getElem?_eq_getElem hl] at q
        cases q
        rfl
      simp only [hn, placeL, q]
      rw [if_neg (show ¬ many ≤ k by omega)]
      cases z : MD.numOf w.cps.toList with
      | none => simp
      | some v =>
        have ih := scan_place ws many m (k + 1) (acc ++ [v]) (by omega) (by omega)
        have e : ws.length - (k + 1) = n := by omega
        rw [e] at ih
        simp only [z]
        cases r : scanL ws m (k + 1) (acc ++ [v]) with
        | inl p => simp only [r] at ih ⊢; exact ih
        | inr vs =>
          simp only [r] at ih ⊢
          obtain ⟨i1, i2, i3, i4⟩ := ih
          refine ⟨?_, by omega, ?_, i4⟩
          · rw [i1, hd, List.take_succ_cons, List.map_cons]
            have : valOf w = v := by simp [valOf, z]
            rw [this]
            simp
          · rw [hd, List.take_succ_cons]
            intro x hx
            rcases List.mem_cons.mp hx with hx | hx
            · subst hx; exact ⟨v, z⟩
            · exact i3 x hx
end K63

set_option maxHeartbeats 400000
namespace K63
open PySem PySem.Spec PyProof.Rows L2 MD
theorem int_num {w : Str} {v : Int} (h : MD.numOf w.cps.toList = some v) : (∀ S, intF (.str w) S = .ok (.int v) S) ∧ v.natAbs < 10 ^ 9 := by
  by_cases hg : goodDigits (unsigned w.cps.toList) = true
  · obtain ⟨x, i1, i2, i3, i4, i5⟩ := int_word hg
    obtain ⟨g1, g2, g3⟩ := good_ok hg
    have lv : NumText.digitsVal (unsigned w.cps.toList) < 10 ^ 9 := Nat.lt_of_lt_of_le (val_le _ g3) (Nat.pow_le_pow_right (by decide) g2)
    unfold MD.numOf at h
    rw [if_pos hg] at h
    split at h
    · cases h
    · have e : v = x := by
        rw [i5]
        split at h
        · rename_i q; rw [if_pos q]; exact (Option.some.inj h).symm
        · rename_i q; rw [if_neg q]; exact (Option.some.inj h).symm
      subst e
      refine ⟨fun S => by simp [intF, i1, i2], ?_⟩
      rw [i5]
      split <;> omega
  · unfold MD.numOf at h
    rw [if_neg hg] at h
    cases h
def poiseD (xs ys : List Int) : D := .tup [.lst (xs.map .int), .lst (ys.map .int)]
def poiseP (xs ys : List Int) : PyData := .tuple [.list (xs.map .int), .list (ys.map .int)]
theorem due_pair (zs : List D) (a : Nat) (b : D) (x y : Option D) (S : Store) (h : a ≤ zs.length) (hz : zs.length ≤ 1000) : (sRet (mApp newTup (aCons (mSl false (mVar 3) (oNone) (oSome (mOp2 ixF (mVar 0) (mC (.int 0))))) (aCons (mSl false (mVar 3) (oSome (mOp2 ixF (mVar 0) (mC (.int 0)))) (oNone)) (aNil))))) [some (.tup [.int a, b]), x, y, some (.lst zs)] S = .rt (.tup [.lst (zs.take a), .lst (zs.drop a)]) S := by
  have c1 := cutD_lo zs a h
  have c2 := cutD_hi zs a h
  have n1 := fun S => newLst_eq (xs := zs.take a) (by simp; omega) S
  have n2 := fun S => newLst_eq (xs := zs.drop a) (by simp; omega) S
  have n3 := fun x y S => newTup_eq (xs := [x, y]) (by simp) S
  have e0 : atI [D.int a, b] 0 = some (.int a) := rfl
  simp [lenF, lstOf, seqOf, mSl, oNone, oSome, ixF, MD.intD, slF, newL, e0, c1, c2, n1, n2, n3]
theorem due_ok (a b : Nat) (ws : List Str) (hw : ∀ w ∈ ws, ∃ v, MD.numOf w.cps.toList = some v) (hl : ws.length = a + b) (hb : a + b ≤ 1000) (S : Store) :
    G__law_due [.tup [.int a, .int b], .lst (ws.map .str)] S = .ok (poiseD ((ws.map valOf).take a) ((ws.map valOf).drop a)) S := by
  have h := lcL_all (g := gN 2) (te := mApp (one intF) (aCons (mVar 2) aNil)) (vs := [2]) (ρ := [some (.tup [.int a, .int b]), some (.lst (ws.map .str)), none, none]) (ck := ckOf (.lst (ws.map .str)) (ws.map .str)) (S := S) rfl (fun x => match x with
    | .str w => .int (valOf w)
    | _ => .non) (ws.map D.str) [] (fun x hx => by
      obtain ⟨w, hm, rfl⟩ := List.mem_map.mp hx
      obtain ⟨v, hv⟩ := hw w hm
      have := (int_num hv).1
      exact ⟨_, rfl, by simp [wipeE, this, valOf, hv]⟩) (by simp [sizeLine_eq]; omega)
  have e : (ws.map D.str).map (fun x => match x with
    | .str w => D.int (valOf w)
    | _ => .non) = (ws.map valOf).map D.int := by simp
  rw [List.nil_append, e] at h
  have s1 : sSet (mLc false (mIt (mVar 1)) (gN 2) (bYes) (mApp (one intF) (aCons (mVar 2) (aNil))) [2]) 3 [some (.tup [.int a, .int b]), some (.lst (ws.map .str)), none, none] S = .nx [some (.tup [.int a, .int b]), some (.lst (ws.map .str)), none, some (.lst ((ws.map valOf).map .int))] S := by
    simp only [sSet, mLc, mIt, mVar, List.getElem?_cons_succ, List.getElem?_cons_zero, bind_ok, itF, seqOf_lst, h, finL, Bool.false_eq_true, if_false, do_ok, List.set_cons_succ, List.set_cons_zero]
  have hd : G__law_due [.tup [.int a, .int b], .lst (ws.map .str)] S = endB (m__law_due [some (.tup [.int a, .int b]), some (.lst (ws.map .str)), none, none] S) := by rw [G__law_due, runB]; rfl
  rw [hd, m__law_due, seq_nx s1, due_pair ((ws.map valOf).map .int) a _ _ _ S (by simp; omega) (by simp; omega)]
  simp [poiseD]
theorem poise_show {xs ys : List Int} (hx : xs.length ≤ 3) (hy : ys.length ≤ 3) (ax : ∀ i ∈ xs, i.natAbs < 10 ^ 40) (ay : ∀ i ∈ ys, i.natAbs < 10 ^ 40) {S : Store} {d : D} (e : flatS S d = some (poiseP xs ys)) : repF d S = .ok (.str (poiseP xs ys).shown) S := by
  have h1 := short_ints xs ax
  have h2 := short_ints ys ay
  refine rep_ok 42 e ?_ ?_ ?_ ?_ (by decide) ?_
  · simp [poiseP, PyData.showable, PyData.showableAll, h1, h2]
  · simp [poiseP, PyData.hasDict, PyData.hasDictAll, h1, h2]
  · simp [poiseP, PyData.depth, PyData.depthAll]; omega
  · simp [poiseP, PyData.leavesShort, PyData.leavesShortAll, h1, h2]
  · simp only [poiseP, PyData.weight, PyData.weightAll]; omega
theorem flat_poise (xs ys : List Int) (S : Store) : flatS S (poiseD xs ys) = some (poiseP xs ys) := by
  simp [poiseD, poiseP, flatS, flat, toPy, toPyL, toPyL_ints]
theorem optAll_ints {f : D → Option PyData} (hf : ∀ i, f (.int i) = some (.int i)) : ∀ xs : List Int, optAll f (xs.map .int) = some (xs.map PyData.int)
  | [] => rfl
  | x :: xs => by simp [optAll, optAll_ints hf xs, hf]
theorem flat_poiseL (xs ys : List Int) (S : Store) (i j : Nat) (hi : S[i]? = some (.lst (xs.map .int))) (hj : S[j]? = some (.lst (ys.map .int))) : flatS S (.tup [.loc i, .loc j]) = some (poiseP xs ys) := by
  have e : ∀ zs : List Int, optAll (flat 4 S) (zs.map .int) = some (zs.map PyData.int) := optAll_ints fun i => rfl
  have t1 : flatS S (.tup [.loc i, .loc j]) = (toPyL (fun n => match S[n]? with
    | some (.lst xs) => optAll (flat 4 S) xs
    | _ => none) [.loc i, .loc j]).map PyData.tuple := rfl
  rw [t1]
  simp only [toPyL, toPy, hi, hj, e, Option.map_some, Option.bind_some, poiseP]
end K63

set_option maxHeartbeats 400000
namespace K63
open PySem PySem.Spec PyProof.Rows L2 MD
theorem placeL_lt (ws : List Str) (many : Nat) : ∀ (n k p : Nat), placeL ws many n k = some p → p < k + n
  | 0, _, _, h => by cases h
  | n + 1, k, p, h => by
    unfold placeL at h
    split at h
    · cases h; omega
    · split at h
      · cases h
      · split at h
        · cases h; omega
        · have := placeL_lt ws many n (k + 1) p h
          omega
structure Tx (t : Str) : Prop where
  len : t.length ≤ 900000
  ok : PyData.strOk t = true
theorem Tx.wd {t : Str} (h : Tx t) : ∀ w ∈ wdsOf t, Wd w := fun w hw => by
  have m := words_mem hw
  have := h.len
  exact ⟨by have := m.1; omega, strOk_iff.mpr fun c hc => strOk_iff.mp h.ok c (m.2 c hc)⟩
theorem Tx.split {t : Str} (h : Tx t) (S : Store) : splitF false t [.str (Str.ofString " ")] S = .ok (.lst ((wdsOf t).map .str)) S := by
  have l := h.len
  have c := words_count t
  rw [show splitF false t [.str (Str.ofString " ")] S = _ from split_run false t S (by omega)]
  exact newLst_eq (by simp; omega) S
noncomputable abbrev rrA : SM := sSet (mMtS (splitF false) (mVar 1) (aCons (mC (.str " ")) (aNil))) 2
noncomputable abbrev rrB : SM := sSet (mApp (argN 2 G__law_place) (aCons (mVar 0) (aCons (mVar 2) (aNil)))) 3
noncomputable abbrev rrC : SM := sTry es_PaintError 5 (sSet (mVar 5) 4) (sSet (mApp (argN 2 G_read_setting) (aCons (mVar 0) (aCons (mVar 1) (aNil)))) 4)
noncomputable abbrev rrD : SM := sIf (bVal (mOp2 isNF (mVar 3) (mC .non))) (sRet (mOp2 eqF (mApp (one repF) (aCons (mVar 4) (aNil))) (mApp (one repF) (aCons (mApp (argN 2 G__law_due) (aCons (mVar 0) (aCons (mVar 2) (aNil)))) (aNil))))) (sNx)
noncomputable abbrev rrE : SM := sSeq (sIf (bOr (bNot (bVal (mOp1 (isF kb_InvalidText cb_InvalidText eb_InvalidText) (mVar 4)))) (bNot (bVal (mOp1 (isF kb_ValueError cb_ValueError eb_ValueError) (mVar 4))))) (sRet (mC (.bl false))) (sNx))
  (sSeq (sIf (bOr (bVal (mOp1 (isF kb_InvalidSetting cb_InvalidSetting eb_InvalidSetting) (mVar 4))) (bVal (mOp1 (isF kb_InvalidFrame cb_InvalidFrame eb_InvalidFrame) (mVar 4)))) (sRet (mC (.bl false))) (sNx))
  (sRet (mOp2 eqF (mApp (one repF) (aCons (mOp1 (xfdF xs_place "place") (mVar 4)) (aNil))) (mApp (one repF) (aCons (mVar 3) (aNil))))))
theorem m_rr : m__law_right = sSeq rrA (sSeq rrB (sSeq rrC (sSeq rrD rrE))) := rfl
theorem rep_int (k : Nat) (S : Store) (h : k < 10 ^ 40) : repF (.int k) S = .ok (.str (PyData.int k).shown) S := by
  have z := short_int (i := (k : Int)) (by rw [Int.natAbs_natCast]; exact h)
  refine rep_ok 42 (p := .int k) rfl z.2.1 ?_ ?_ z.1 (by decide) (by have := z.2.2; omega)
  · unfold PyData.hasDict; rfl
  · unfold PyData.depth; omega
/-- the exception's part -/
theorem rr_exc (p t w : Option D) (k : Nat) (S : Store) (o : Option D) (hk : k < 10 ^ 40) :
    rrE [p, t, w, some (.int k), some (.loc S.length), o] (S ++ [.exc (badText k)]) = .rt (.bl true) (S ++ [.exc (badText k)]) := by
  have e := fun S => rep_int k S hk
  have hx : xfdF xs_place "place" (.loc S.length) (S ++ [.exc (badText k)]) = .ok (.int k) (S ++ [.exc (badText k)]) := by
    simp [xfdF, badText, xs_place, List.lookup]
  simp [isF, kindD, ansF, hx, e]
/-- the answer's part -/
theorem rr_ans (a b : Nat) (t : Option D) (ws : List Str) (f : D) (S : Store) (o : Option D) (hw : ∀ w ∈ ws, ∃ v, MD.numOf w.cps.toList = some v) (hl : ws.length = a + b) (ha : a ≤ 3) (hb : b ≤ 3) (hf : flatS S f = some (poiseP ((ws.map valOf).take a) ((ws.map valOf).drop a))) :
    rrD [some (.tup [.int a, .int b]), t, some (.lst (ws.map .str)), some .non, some f, o] S = .rt (.bl true) S := by
  have hv : ∀ i ∈ ws.map valOf, i.natAbs < 10 ^ 40 := by
    intro i hi
    obtain ⟨w, hm, rfl⟩ := List.mem_map.mp hi
    obtain ⟨v, q⟩ := hw w hm
    have := (int_num q).2
    simp only [valOf, q, Option.getD_some]
    omega
  have h1 : ∀ S d, flatS S d = some (poiseP ((ws.map valOf).take a) ((ws.map valOf).drop a)) → repF d S = .ok (.str (poiseP ((ws.map valOf).take a) ((ws.map valOf).drop a)).shown) S := fun S d e =>
    poise_show (by simp; omega) (by simp; omega) (fun i hi => hv i (List.mem_of_mem_take hi)) (fun i hi => hv i (List.mem_of_mem_drop hi)) e
  have d := due_ok a b ws hw hl (by omega) S
  simp only [sIf, bVal, mOp2, mVar, mC, List.getElem?_cons_succ, List.getElem?_cons_zero, bind_ok, isNF, decide_true, boolD, do_ok, if_true, sRet, mApp, aCons, aNil, one, h1 S f hf, argN, List.length_cons, List.length_nil, d, h1 S _ (flat_poise _ _ S), eqF_str]
theorem right_ok (a b : Nat) (t : Str) (S : Store) (ha : 1 ≤ a ∧ a ≤ 3) (hb : 1 ≤ b ∧ b ≤ 3) (ht : Tx t) : ∃ T, G__law_right [.tup [.int a, .int b], .str t] S = .ok (.bl true) (S ++ T) := by
  have hwd := ht.wd
  have hc : (wdsOf t).length ≤ 1000000 := by have := words_count t; have := ht.len; omega
  have s1 : rrA [some (.tup [.int a, .int b]), some (.str t), none, none, none, none] S = .nx [some (.tup [.int a, .int b]), some (.str t), some (.lst ((wdsOf t).map .str)), none, none, none] S := by
    have := ht.split S
    simp only [rrA, sSet, mMtS, mVar, mC, aCons, aNil, List.getElem?_cons_succ, List.getElem?_cons_zero, bind_ok, this, do_ok, List.set_cons_succ, List.set_cons_zero]
  have pl := place_ok a b (wdsOf t) hwd hc S
  have s2 : rrB [some (.tup [.int a, .int b]), some (.str t), some (.lst ((wdsOf t).map .str)), none, none, none] S = .nx [some (.tup [.int a, .int b]), some (.str t), some (.lst ((wdsOf t).map .str)), some (placeD (placeR (wdsOf t) (a + b))), none, none] S := by
    exact set_eq (call_eq (cons_eq (var_eq rfl) (cons_eq (var_eq rfl) rfl)) pl)
  have hd : G__law_right [.tup [.int a, .int b], .str t] S = endB (m__law_right [some (.tup [.int a, .int b]), some (.str t), none, none, none, none] S) := by rw [G__law_right, runB]; rfl
  have rd := read_core a b t (wdsOf t) S ha hb ht.split (fun w hw => (hwd w hw).len)
  have sp := scan_place (wdsOf t) (a + b) (a + b) 0 [] (by omega) (by omega)
  rw [hd, m_rr, seq_nx s1, seq_nx s2]
  have exc : ∀ (k : Nat) (T : Store), G_read_setting [.tup [.int a, .int b], .str t] S = .exc (badText k) (S ++ T) → placeR (wdsOf t) (a + b) = some k → k < 10 ^ 40 → ∃ T, endB (sSeq rrC (sSeq rrD rrE) [some (.tup [.int a, .int b]), some (.str t), some (.lst ((wdsOf t).map .str)), some (placeD (placeR (wdsOf t) (a + b))), none, none] S) = .ok (.bl true) (S ++ T) := by
    intro k T e hp hk
    have s3 : rrC [some (.tup [.int a, .int b]), some (.str t), some (.lst ((wdsOf t).map .str)), some (.int k), none, none] S = .nx [some (.tup [.int a, .int b]), some (.str t), some (.lst ((wdsOf t).map .str)), some (.int k), some (.loc (S ++ T).length), none] ((S ++ T) ++ [.exc (badText k)]) := by
      refine try_exc (ρ1 := [some (.tup [.int a, .int b]), some (.str t), some (.lst ((wdsOf t).map .str)), some (.int k), none, none]) (set_exc (call_eq (cons_eq (var_eq rfl) (cons_eq (var_eq rfl) rfl)) e)) ls_PaintError_InvalidText (set_eq (var_eq rfl))
    have s4 : rrD [some (.tup [.int a, .int b]), some (.str t), some (.lst ((wdsOf t).map .str)), some (.int k), some (.loc (S ++ T).length), none] ((S ++ T) ++ [.exc (badText k)]) = .nx [some (.tup [.int a, .int b]), some (.str t), some (.lst ((wdsOf t).map .str)), some (.int k), some (.loc (S ++ T).length), none] ((S ++ T) ++ [.exc (badText k)]) := by
      exact if_f (bval_eq (op2_eq (var_eq rfl) rfl rfl))
    refine ⟨T ++ [.exc (badText k)], ?_⟩
    rw [hp, show placeD (some k) = .int k from rfl, seq_nx s3, seq_nx s4, rr_exc _ _ _ k (S ++ T) none hk, List.append_assoc]
    rfl
  have good : ∀ (f : D) (T : Store), G_read_setting [.tup [.int a, .int b], .str t] S = .ok f (S ++ T) → placeR (wdsOf t) (a + b) = none → (∀ w ∈ wdsOf t, ∃ v, MD.numOf w.cps.toList = some v) → (wdsOf t).length = a + b → flatS (S ++ T) f = some (poiseP (((wdsOf t).map valOf).take a) (((wdsOf t).map valOf).drop a)) → ∃ T, endB (sSeq rrC (sSeq rrD rrE) [some (.tup [.int a, .int b]), some (.str t), some (.lst ((wdsOf t).map .str)), some (placeD (placeR (wdsOf t) (a + b))), none, none] S) = .ok (.bl true) (S ++ T) := by
    intro f T e hp hw hl hf
    have s3 : rrC [some (.tup [.int a, .int b]), some (.str t), some (.lst ((wdsOf t).map .str)), some .non, none, none] S = .nx [some (.tup [.int a, .int b]), some (.str t), some (.lst ((wdsOf t).map .str)), some .non, some f, none] (S ++ T) := by
      exact try_nx (set_eq (call_eq (cons_eq (var_eq rfl) (cons_eq (var_eq rfl) rfl)) e))
    refine ⟨T, ?_⟩
    rw [hp, show placeD none = .non from rfl, seq_nx s3, seq_rt (rr_ans a b _ (wdsOf t) f (S ++ T) none hw hl ha.2 hb.2 hf)]
    rfl
  cases q : scanL (wdsOf t) (a + b) 0 [] with
  | inl p =>
    simp only [q] at rd sp
    obtain ⟨T, e⟩ := rd
    rw [Nat.sub_zero] at sp
    cases z : placeL (wdsOf t) (a + b) (wdsOf t).length 0 with
    | some k =>
      simp only [z] at sp
      have hp : placeR (wdsOf t) (a + b) = some k := by unfold placeR; rw [z]
      have := placeL_lt _ _ _ _ _ z
      exact exc k T (by rw [sp]; exact e) hp (by omega)
    | none =>
      simp only [z] at sp
      have hp : placeR (wdsOf t) (a + b) = some (wdsOf t).length := by unfold placeR; rw [z]; exact if_neg sp.1
      exact exc _ T (by rw [sp.2]; exact e) hp (by omega)
  | inr vs =>
    simp only [q] at rd sp
    obtain ⟨h1, h2, h3, h4⟩ := sp
    rw [Nat.sub_zero] at h4
    by_cases hl : a + b < (wdsOf t).length
    · rw [if_pos hl] at rd h4
      obtain ⟨T, e⟩ := rd
      have hp : placeR (wdsOf t) (a + b) = some (a + b) := by unfold placeR; rw [h4]
      exact exc _ T e hp (by omega)
    · rw [if_neg hl] at rd h4
      have hl' : (wdsOf t).length = a + b := by omega
      have ht : List.take (a + b) (wdsOf t) = wdsOf t := List.take_of_length_le (by omega)
      rw [List.drop_zero, ht] at h1 h3
      rw [List.nil_append] at h1
      have hp : placeR (wdsOf t) (a + b) = none := by unfold placeR; rw [h4]; exact if_pos hl'
      refine good _ _ rd.2 hp h3 hl' ?_
      rw [← h1]
      exact flat_poiseL _ _ _ _ _ (by simp) (by simp)
end K63

set_option maxHeartbeats 400000
namespace K63
open PySem PySem.Spec PyProof.Rows L2 MD
local macro_rules | `(tactic| walk_at "sz") => `(tactic| first | (simp only [List.length_append, List.length_cons, List.length_nil, List.length_map, List.length_take, List.length_drop, List.length_replicate]; omega) | (focus (simp; done)) | omega)
local macro_rules | `(tactic| walk_at "sq") => `(tactic| first | (with_reducible assumption) | (with_reducible exact seq_tup) | (with_reducible exact lst_lst) | (with_reducible exact seq_lst lst_lst) | ((with_reducible apply seq_lst); (with_reducible apply lst_loc); walk_at "ce") | ((with_reducible apply lst_loc); walk_at "ce"))
local macro_rules | `(tactic| walk_at "ce") => `(tactic| first | (with_reducible assumption) | (exact List.getElem?_set_self (by assumption)) | (focus (simp; done)))
local macro_rules | `(tactic| walk_at "lf") => `(tactic| first
  | (with_reducible assumption)
  | (with_reducible exact addF_int) | (with_reducible exact subF_int) | (with_reducible exact ltF_int) | (with_reducible exact leF_int) | (with_reducible exact gtF_int) | (with_reducible exact geF_int) | (with_reducible exact negF_int)
  | (with_reducible exact eqF_int _ _ _) | (with_reducible exact eqF_str _ _ _) | (with_reducible exact neF_int _ _ _) | (with_reducible exact neF_str _ _ _)
  | ((with_reducible apply one_eq); walk_at "lf")
  | ((with_reducible apply two_eq); walk_at "lf")
  | ((with_reducible apply newTup_eq); walk_at "sz")
  | ((with_reducible apply newL_f); walk_at "sz")
  | ((with_reducible apply newL_t); walk_at "sz")
  | (with_reducible exact finL_f) | (with_reducible exact finL_t)
  | ((with_reducible apply ixF_eq); (walk_at "sq"); first | (with_reducible assumption) | rfl)
  | ((with_reducible apply lenF_eq); walk_at "sq")
  | ((with_reducible apply lenF_str); walk_at "sz")
  | (with_reducible exact slF_tup)
  | ((with_reducible apply slF_str); walk_at "sz")
  | ((with_reducible apply slF_lst); (walk_at "sq"); (walk_at "lf"))
  | ((with_reducible apply addF_str); walk_at "sz")
  | ((with_reducible apply addF_tup); walk_at "sz")
  | ((with_reducible apply addF_lst); (walk_at "sq"); (walk_at "sq"); (walk_at "lf"))
  | (with_reducible solve_by_elim (maxDepth := 4)) | ((with_reducible apply_assumption) <;> first | assumption | (focus (simp; done))))
local macro_rules | `(tactic| walk_at "dc") => `(tactic| first
  | (with_reducible rfl) | (with_reducible assumption) | (simp only [decide_eq_true_eq, decide_eq_false_iff_not, Bool.not_eq_true', Bool.not_eq_false', Bool.not_eq_eq_eq_not, Bool.not_true, Bool.not_false]; first | omega | assumption) | (focus (simp; done)) | (focus (simp [*]; done)))
local macro_rules | `(tactic| walk_at "ev") => `(tactic| first
  | (with_reducible exact con_eq)
  | ((with_reducible apply var_eq); rfl)
  | (with_reducible exact nil_eq)
  | (with_reducible exact bYes_eq)
  | (with_reducible exact onone_eq)
  | ((with_reducible apply osome_eq); walk_at "ev")
  | ((with_reducible apply cons_eq); (walk_at "ev"); (walk_at "ev"))
  | ((with_reducible apply op2_eq); (walk_at "ev"); (walk_at "ev"); (walk_at "lf"))
  | ((with_reducible apply op1_eq); (walk_at "ev"); (walk_at "lf"))
  | ((with_reducible apply call_eq); (walk_at "ev"); (walk_at "lf"); rfl)
  | ((with_reducible apply app_eq); (walk_at "ev"); (walk_at "lf"))
  | ((with_reducible apply bval_eq); (walk_at "ev"))
  | ((with_reducible apply not_eq); (walk_at "ev"))
  | ((with_reducible apply mnot_eq); (walk_at "ev"))
  | ((with_reducible apply and_f); (walk_at "ev"); (walk_at "dc"))
  | ((with_reducible apply and_t); (walk_at "ev"); (walk_at "dc"); (walk_at "ev"))
  | ((with_reducible apply or_t); (walk_at "ev"); (walk_at "dc"))
  | ((with_reducible apply or_f); (walk_at "ev"); (walk_at "dc"); (walk_at "ev"))
  | ((with_reducible apply mand_f); (walk_at "ev"); (walk_at "dc"))
  | ((with_reducible apply mand_t); (walk_at "ev"); (walk_at "dc"); (walk_at "ev"))
  | ((with_reducible apply mor_t); (walk_at "ev"); (walk_at "dc"))
  | ((with_reducible apply mor_f); (walk_at "ev"); (walk_at "dc"); (walk_at "ev"))
  | ((with_reducible apply mif_t); (walk_at "ev"); (walk_at "dc"); (walk_at "ev"))
  | ((with_reducible apply mif_f); (walk_at "ev"); (walk_at "dc"); (walk_at "ev"))
  | ((with_reducible apply sl_eq); (walk_at "ev"); (walk_at "ev"); (walk_at "ev"); (walk_at "lf"))
  | ((with_reducible apply mts_eq); (walk_at "ev"); (walk_at "ev"); (walk_at "lf"))
  | ((with_reducible apply mtl_eq); (walk_at "ev"); (walk_at "sq"); (walk_at "ev"); (walk_at "lf"))
  | ((with_reducible apply lc_eq); (walk_at "ev"); (walk_at "lf"); (walk_at "lf"))
  | ((with_reducible apply itm_eq); (walk_at "ev"); (walk_at "sq"))
  | ((with_reducible apply itS_eq); (walk_at "ev"))
  | ((with_reducible apply ita_eq); (walk_at "ev"); (walk_at "lf")))
local macro_rules | `(tactic| walk_at "st") => `(tactic| first
  | (with_reducible exact nx_eq) | (with_reducible exact retN_eq) | (with_reducible exact raise_eq) | (with_reducible exact bk_eq) | (with_reducible exact ct_eq)
  | ((with_reducible apply seq_eq); (walk_at "st"); (try walk_at "st"))
  | ((with_reducible apply seq_exc); (walk_at "st"))
  | ((with_reducible apply seq_rt); (walk_at "st"))
  | ((with_reducible apply set_eq); (walk_at "ev"))
  | ((with_reducible apply exp_eq); (walk_at "ev"))
  | ((with_reducible apply ret_eq); (walk_at "ev"))
  | ((with_reducible apply par_eq); (walk_at "ev"))
  | ((with_reducible apply raiseF_eq); (walk_at "ev"))
  | ((with_reducible apply sif_t); (walk_at "ev"); (walk_at "dc"); (walk_at "st"))
  | ((with_reducible apply sif_f); (walk_at "ev"); (walk_at "dc"); (walk_at "st"))
  | ((with_reducible apply sfor_eq); (walk_at "ev"); (walk_at "lf")))

/-- a setting of a frame -/
structure Poise (a b : Nat) (xs ys : List Int) : Prop where
  lx : xs.length = a
  ly : ys.length = b
  ha : 1 ≤ a ∧ a ≤ 3
  hb : 1 ≤ b ∧ b ≤ 3
  abs : ∀ v ∈ xs ++ ys, v.natAbs < 10 ^ 40
theorem Poise.small {a b : Nat} {xs ys : List Int} (p : Poise a b xs ys) : Small (xs ++ ys) := ⟨by have := p.lx; have := p.ly; have := p.ha; have := p.hb; rw [List.length_append]; omega, p.abs⟩
theorem tx_told {vs : List Int} (s : Small vs) : Tx (told vs) := by
  have h := sum_txts s
  have j := join_len (txts vs)
  have e : Str.length " " = 1 := by decide
  rw [e] at h
  refine ⟨by unfold told; omega, strOk_iff.mpr fun c hc => ?_⟩
  rcases join_mem hc with q | ⟨w, hw, q⟩
  · omega
  · obtain ⟨v, _, rfl⟩ := List.mem_map.mp hw
    rcases text_signs q with z | z <;> omega
theorem txts_ne {vs : List Int} (h : vs ≠ []) : txts vs ≠ [] := by simpa [txts] using h
theorem words_told {vs : List Int} (h : vs ≠ []) : wdsOf (told vs) = txts vs := split_words (txts_ne h) fun w hw => by
  obtain ⟨v, _, rfl⟩ := List.mem_map.mp hw
  intro q
  rcases text_signs q with z | z <;> omega
theorem scan_good (vs : List Int) (h : ∀ v ∈ vs, v.natAbs < 10 ^ 9) : ∀ (m k : Nat) (acc : List Int), k + m = vs.length → scanL (txts vs) m k acc = .inr (acc ++ vs.drop k)
  | 0, k, acc, e => by
    unfold scanL
    rw [List.drop_eq_nil_of_le (by omega), List.append_nil]
  | m + 1, k, acc, e => by
    have hk : k < vs.length := by omega
    have q : (txts vs)[k]? = some (Str.ofString (toString vs[k])) := by
      unfold txts
      rw [List.getElem?_map, List.getElem?_eq_getElem hk]
      rfl
    unfold scanL
    rw [q]
    simp only [numOf_text (h _ (List.getElem_mem hk))]
    rw [scan_good vs h m (k + 1) _ (by omega), List.drop_eq_getElem_cons hk]
    simp
theorem read_told {a b : Nat} {xs ys : List Int} (p : Poise a b xs ys) (h : ∀ v ∈ xs ++ ys, v.natAbs < 10 ^ 9) (S : Store) :
    G_read_setting [.tup [.int a, .int b], .str (told (xs ++ ys))] S = .ok (.tup [.loc (S.length + 1), .loc (S.length + 2)]) (S ++ [.lst ((xs ++ ys).map .int), .lst (xs.map .int), .lst (ys.map .int)]) := by
  have hx := p.lx
  have hy := p.ly
  have ha := p.ha
  have hl : (xs ++ ys).length = a + b := by rw [List.length_append]; omega
  have hne : xs ++ ys ≠ [] := fun e => by rw [e] at hl; simp at hl; omega
  have tx := tx_told p.small
  have rd := read_core a b (told (xs ++ ys)) (wdsOf (told (xs ++ ys))) S p.ha p.hb tx.split (fun w hw => (tx.wd w hw).len)
  rw [words_told hne, scan_good _ h (a + b) 0 [] (by omega)] at rd
  have lt : (txts (xs ++ ys)).length = a + b := by unfold txts; rw [List.length_map, hl]
  simp only [List.drop_zero, List.nil_append] at rd
  rw [if_neg (by omega)] at rd
  have e1 : (xs ++ ys).take a = xs := by rw [← hx]; simp
  have e2 : (xs ++ ys).drop a = ys := by rw [← hx]; simp
  rw [rd.2, e1, e2]
end K63

set_option maxHeartbeats 400000
namespace K63
open PySem PySem.Spec PyProof.Rows L2 MD
local macro_rules | `(tactic| walk_at "sz") => `(tactic| first | (simp only [List.length_append, List.length_cons, List.length_nil, List.length_map, List.length_take, List.length_drop, List.length_replicate]; omega) | (focus (simp; done)) | omega)
local macro_rules | `(tactic| walk_at "sq") => `(tactic| first | (with_reducible assumption) | (with_reducible exact seq_tup) | (with_reducible exact lst_lst) | (with_reducible exact seq_lst lst_lst) | ((with_reducible apply seq_lst); (with_reducible apply lst_loc); walk_at "ce") | ((with_reducible apply lst_loc); walk_at "ce"))
local macro_rules | `(tactic| walk_at "ce") => `(tactic| first | (with_reducible assumption) | (exact List.getElem?_set_self (by assumption)) | (focus (simp; done)))
local macro_rules | `(tactic| walk_at "lf") => `(tactic| first
  | (with_reducible assumption)
  | (with_reducible exact addF_int) | (with_reducible exact subF_int) | (with_reducible exact ltF_int) | (with_reducible exact leF_int) | (with_reducible exact gtF_int) | (with_reducible exact geF_int) | (with_reducible exact negF_int)
  | (with_reducible exact eqF_int _ _ _) | (with_reducible exact eqF_str _ _ _) | (with_reducible exact neF_int _ _ _) | (with_reducible exact neF_str _ _ _)
  | ((with_reducible apply one_eq); walk_at "lf")
  | ((with_reducible apply two_eq); walk_at "lf")
  | ((with_reducible apply newTup_eq); walk_at "sz")
  | ((with_reducible apply newL_f); walk_at "sz")
  | ((with_reducible apply newL_t); walk_at "sz")
  | (with_reducible exact finL_f) | (with_reducible exact finL_t)
  | ((with_reducible apply ixF_eq); (walk_at "sq"); first | (with_reducible assumption) | rfl)
  | ((with_reducible apply lenF_eq); walk_at "sq")
  | ((with_reducible apply lenF_str); walk_at "sz")
  | (with_reducible exact slF_tup)
  | ((with_reducible apply slF_str); walk_at "sz")
  | ((with_reducible apply slF_lst); (walk_at "sq"); (walk_at "lf"))
  | ((with_reducible apply addF_str); walk_at "sz")
  | ((with_reducible apply addF_tup); walk_at "sz")
  | ((with_reducible apply addF_lst); (walk_at "sq"); (walk_at "sq"); (walk_at "lf"))
  | (with_reducible solve_by_elim (maxDepth := 4)) | ((with_reducible apply_assumption) <;> first | assumption | (focus (simp; done))))
local macro_rules | `(tactic| walk_at "dc") => `(tactic| first
  | (with_reducible rfl) | (with_reducible assumption) | (simp only [decide_eq_true_eq, decide_eq_false_iff_not, Bool.not_eq_true', Bool.not_eq_false', Bool.not_eq_eq_eq_not, Bool.not_true, Bool.not_false]; first | omega | assumption) | (focus (simp; done)) | (focus (simp [*]; done)))
local macro_rules | `(tactic| walk_at "ev") => `(tactic| first
  | (with_reducible exact con_eq)
  | ((with_reducible apply var_eq); rfl)
  | (with_reducible exact nil_eq)
  | (with_reducible exact bYes_eq)
  | (with_reducible exact onone_eq)
  | ((with_reducible apply osome_eq); walk_at "ev")
  | ((with_reducible apply cons_eq); (walk_at "ev"); (walk_at "ev"))
  | ((with_reducible apply op2_eq); (walk_at "ev"); (walk_at "ev"); (walk_at "lf"))
  | ((with_reducible apply op1_eq); (walk_at "ev"); (walk_at "lf"))
  | ((with_reducible apply call_eq); (walk_at "ev"); (walk_at "lf"); rfl)
  | ((with_reducible apply app_eq); (walk_at "ev"); (walk_at "lf"))
  | ((with_reducible apply bval_eq); (walk_at "ev"))
  | ((with_reducible apply not_eq); (walk_at "ev"))
  | ((with_reducible apply mnot_eq); (walk_at "ev"))
  | ((with_reducible apply and_f); (walk_at "ev"); (walk_at "dc"))
  | ((with_reducible apply and_t); (walk_at "ev"); (walk_at "dc"); (walk_at "ev"))
  | ((with_reducible apply or_t); (walk_at "ev"); (walk_at "dc"))
  | ((with_reducible apply or_f); (walk_at "ev"); (walk_at "dc"); (walk_at "ev"))
  | ((with_reducible apply mand_f); (walk_at "ev"); (walk_at "dc"))
  | ((with_reducible apply mand_t); (walk_at "ev"); (walk_at "dc"); (walk_at "ev"))
  | ((with_reducible apply mor_t); (walk_at "ev"); (walk_at "dc"))
  | ((with_reducible apply mor_f); (walk_at "ev"); (walk_at "dc"); (walk_at "ev"))
  | ((with_reducible apply mif_t); (walk_at "ev"); (walk_at "dc"); (walk_at "ev"))
  | ((with_reducible apply mif_f); (walk_at "ev"); (walk_at "dc"); (walk_at "ev"))
  | ((with_reducible apply sl_eq); (walk_at "ev"); (walk_at "ev"); (walk_at "ev"); (walk_at "lf"))
  | ((with_reducible apply mts_eq); (walk_at "ev"); (walk_at "ev"); (walk_at "lf"))
  | ((with_reducible apply mtl_eq); (walk_at "ev"); (walk_at "sq"); (walk_at "ev"); (walk_at "lf"))
  | ((with_reducible apply lc_eq); (walk_at "ev"); (walk_at "lf"); (walk_at "lf"))
  | ((with_reducible apply itm_eq); (walk_at "ev"); (walk_at "sq"))
  | ((with_reducible apply itS_eq); (walk_at "ev"))
  | ((with_reducible apply ita_eq); (walk_at "ev"); (walk_at "lf")))
local macro_rules | `(tactic| walk_at "st") => `(tactic| first
  | (with_reducible exact nx_eq) | (with_reducible exact retN_eq) | (with_reducible exact raise_eq) | (with_reducible exact bk_eq) | (with_reducible exact ct_eq)
  | ((with_reducible apply seq_eq); (walk_at "st"); (try walk_at "st"))
  | ((with_reducible apply seq_exc); (walk_at "st"))
  | ((with_reducible apply seq_rt); (walk_at "st"))
  | ((with_reducible apply set_eq); (walk_at "ev"))
  | ((with_reducible apply exp_eq); (walk_at "ev"))
  | ((with_reducible apply ret_eq); (walk_at "ev"))
  | ((with_reducible apply par_eq); (walk_at "ev"))
  | ((with_reducible apply raiseF_eq); (walk_at "ev"))
  | ((with_reducible apply sif_t); (walk_at "ev"); (walk_at "dc"); (walk_at "st"))
  | ((with_reducible apply sif_f); (walk_at "ev"); (walk_at "dc"); (walk_at "st"))
  | ((with_reducible apply sfor_eq); (walk_at "ev"); (walk_at "lf")))

theorem str_vals (ρ : MD.Env) (i : Nat) (vs : List Int) (S : Store) (hi : i < ρ.length) (s : Small vs) : lcL (ckOf (.lst (vs.map .int)) (vs.map .int)) (gN i) bYes (mApp (one strF) (aCons (mVar i) aNil)) [i] ρ (vs.map D.int) [] S = .ok ((txts vs).map .str) S :=
  strs_ok _ i ρ vs S rfl hi (fun v hv => log_small (s.abs v hv)) (by have := s.len; omega)
theorem join_vals (vs : List Int) (S : Store) (s : Small vs) : joinF " " [.lst ((txts vs).map .str)] S = .ok (.str (told vs)) S := by
  have hz := Nat.le_trans (sum_txts s) (show 1000 ≤ 16777216 by decide)
  unfold joinF
  simp only [seqOf_lst, strsD_map]
  rw [if_pos hz]
  rfl
theorem eq_pair (t : Str) (S : Store) (h : PyData.strOk t = true) : neF (.lst [.str t, .str t]) (.lst [.str t, .str t]) S = .ok (.bl false) S := by
  have e := eqA_strs S [t, t] [t, t] (by simpa using h) (by simpa using h)
  unfold neF
  rw [show (D.lst [.str t, .str t]) = D.lst ([t, t].map D.str) from rfl, e]
  simp
theorem great_vals (ρ : MD.Env) (vs : List Int) (S : Store) (hi : 2 < ρ.length) (hl : vs.length ≤ 6) : lcL (ckOf (.lst (vs.map .int)) (vs.map .int)) (gN 2) (bVal (mOp2 geF (mApp (one absF) (aCons (mVar 2) (aNil))) (mOp2 powF (mC (.int 10)) (mC (.int 9))))) (mVar 2) [2] ρ (vs.map D.int) [] S = .ok ((vs.filter fun v => decide ((1000000000 : Int) ≤ (v.natAbs : Int))).map .int) S := by
  have p9 : ∀ S, powF (.int 10) (.int 9) S = .ok (.int 1000000000) S := fun S => powF_ok S (by decide) (by decide) (by decide)
  have h := lcL_map (g := gN 2) (tt := bVal (mOp2 geF (mApp (one absF) (aCons (mVar 2) (aNil))) (mOp2 powF (mC (.int 10)) (mC (.int 9))))) (te := mVar 2) (vs := [2]) (ρ := ρ) (ck := ckOf (.lst (vs.map .int)) (vs.map .int)) (S := S) rfl (fun x => match x with
    | .int v => decide ((1000000000 : Int) ≤ (v.natAbs : Int))
    | _ => false) id (vs.map D.int) [] (fun x hx => by
      obtain ⟨v, hm, rfl⟩ := List.mem_map.mp hx
      have e : (if v < 0 then -v else v) = (v.natAbs : Int) := by split <;> omega
      have ev : (wipeE ρ [2]).set 2 (some (.int v)) = (wipeE ρ [2]).set 2 (some (.int v)) := rfl
      have hg : ((wipeE ρ [2]).set 2 (some (D.int v)))[2]? = some (some (.int v)) := List.getElem?_set_self (by simpa [wipeE] using hi)
      refine ⟨_, rfl, ?_, fun _ => var_eq hg⟩
      have a1 : mApp (one absF) (aCons (mVar 2) aNil) ((wipeE ρ [2]).set 2 (some (D.int v))) S = .ok (.int (v.natAbs : Int)) S := app_eq (cons_eq (var_eq hg) rfl) (by rw [← e]; rfl)
      exact bval_eq (op2_eq a1 (op2_eq rfl rfl (p9 _)) rfl)) (by simp [sizeLine_eq]; omega)
  rw [h, List.filter_map]
  simp [Function.comp_def]
theorem ne_ints (l m : List Int) (S : Store) : neF (.lst (l.map .int)) (.lst (m.map .int)) S = .ok (.bl (!decide (l = m))) S := by
  unfold neF
  rw [eqA_ints]
/-- the two lists that are read are made longer -/
theorem push_loop (f1 f2 : Option D) (ρ : MD.Env) (xs ys : List Int) (S : Store) (i : Nat) (hx : S[i]? = some (.lst (xs.map .int))) (hy : S[i + 1]? = some (.lst (ys.map .int))) (lx : xs.length ≤ 10) (ly : ys.length ≤ 10) (o1 o2 o3 o4 o5 o6 o7 : Option D) :
    forL (fun _ => true) (gN 7) (sExp (mMtL appF (mVar 7) (aCons (mC (.int 0)) (aNil)))) [.loc i, .loc (i + 1)] [f1, f2, o1, o2, o3, o4, o5, o6] S = .nx [f1, f2, o1, o2, o3, o4, o5, some (.loc (i + 1))] ((S.set i (.lst ((xs ++ [0]).map .int))).set (i + 1) (.lst ((ys ++ [0]).map .int))) := by
  have hi : i < S.length := (List.getElem?_eq_some_iff.mp hx).1
  have hj : i + 1 < S.length := (List.getElem?_eq_some_iff.mp hy).1
  have a1 : ∀ S : Store, S[i]? = some (.lst (xs.map .int)) → appF (.loc i) [.int 0] S = .ok .non (S.set i (.lst ((xs ++ [0]).map .int))) := fun S h => by
    unfold appF
    simp only [h]
    rw [if_pos (by rw [sizeLine_eq, List.length_map]; omega)]
    simp
  have a2 : ∀ S : Store, S[i + 1]? = some (.lst (ys.map .int)) → appF (.loc (i + 1)) [.int 0] S = .ok .non (S.set (i + 1) (.lst ((ys ++ [0]).map .int))) := fun S h => by
    unfold appF
    simp only [h]
    rw [if_pos (by rw [sizeLine_eq, List.length_map]; omega)]
    simp
  have hy2 : (S.set i (.lst ((xs ++ [0]).map .int)))[i + 1]? = some (.lst (ys.map .int)) := by rw [List.getElem?_set_ne (by omega)]; exact hy
  have t1 : sExp (mMtL appF (mVar 7) (aCons (mC (.int 0)) (aNil))) [f1, f2, o1, o2, o3, o4, o5, some (.loc i)] S = .nx [f1, f2, o1, o2, o3, o4, o5, some (.loc i)] (S.set i (.lst ((xs ++ [0]).map .int))) :=
    exp_eq (mtl_eq (var_eq rfl) (lst_loc hx) (cons_eq rfl rfl) (a1 S hx))
  have t2 : sExp (mMtL appF (mVar 7) (aCons (mC (.int 0)) (aNil))) [f1, f2, o1, o2, o3, o4, o5, some (.loc (i + 1))] (S.set i (.lst ((xs ++ [0]).map .int))) = .nx [f1, f2, o1, o2, o3, o4, o5, some (.loc (i + 1))] ((S.set i (.lst ((xs ++ [0]).map .int))).set (i + 1) (.lst ((ys ++ [0]).map .int))) :=
    exp_eq (mtl_eq (var_eq rfl) (lst_loc hy2) (cons_eq rfl rfl) (a2 _ hy2))
  unfold forL
  simp only [if_true, gN, List.set_cons_succ, List.set_cons_zero]
  rw [t1]
  unfold forL
  simp only [if_true, gN, List.set_cons_succ, List.set_cons_zero]
  rw [t2]
  unfold forL
  rfl
theorem lens_ok (i j : Nat) (xs ys : List Int) (ρ : MD.Env) (S : Store) (hi : S[i]? = some (.lst (xs.map .int))) (hj : S[j]? = some (.lst (ys.map .int))) (f1 f2 f3 f4 f5 f6 f7 f8 : Option D) :
    lcL (fun _ => true) (gN 7) bYes (mApp (one lenF) (aCons (mVar 7) (aNil))) [7] [f1, f2, f3, f4, f5, f6, f7, f8] [.loc i, .loc j] [] S = .ok ([(xs.length : Int), (ys.length : Int)].map .int) S := by
  have l1 : mApp (one lenF) (aCons (mVar 7) (aNil)) [f1, f2, f3, f4, f5, f6, f7, some (.loc i)] S = .ok (.int xs.length) S := app_eq (cons_eq (var_eq rfl) rfl) (by
    have := lenF_eq (S := S) (d := .loc i) (seq_lst (lst_loc hi))
    rw [List.length_map] at this
    exact this)
  have l2 : mApp (one lenF) (aCons (mVar 7) (aNil)) [f1, f2, f3, f4, f5, f6, f7, some (.loc j)] S = .ok (.int ys.length) S := app_eq (cons_eq (var_eq rfl) rfl) (by
    have := lenF_eq (S := S) (d := .loc j) (seq_lst (lst_loc hj))
    rw [List.length_map] at this
    exact this)
  have z0 : 0 < sizeLine := by rw [sizeLine_eq]; omega
  have z1 : 1 < sizeLine := by rw [sizeLine_eq]; omega
  unfold lcL
  simp only [if_true, gN, wipeE, List.set_cons_succ, List.set_cons_zero, bYes, noX, l1, List.length_nil, z0]
  unfold lcL
  simp only [if_true, gN, wipeE, List.set_cons_succ, List.set_cons_zero, bYes, noX, l2, List.nil_append, List.length_cons, List.length_nil, Nat.zero_add, z1]
  unfold lcL
  rfl
theorem get_app (S T : Store) (k : Nat) : (S ++ T)[S.length + k]? = T[k]? := by rw [List.getElem?_append_right (by omega)]; congr 1; omega
theorem set_app (S T : Store) (k : Nat) (c : Cell) : (S ++ T).set (S.length + k) c = S ++ T.set k c := by rw [List.set_append_right _ _ (by omega)]; congr 2; omega
theorem perm_plane (p t : D) : permD [1, 0] [t, p] = [p, t] := rfl
theorem back_ok {a b : Nat} {xs ys : List Int} (p : Poise a b xs ys) (S : Store) : ∃ T, G__law_back_right [.tup [.int a, .int b], poiseD xs ys] S = .ok (.bl true) (S ++ T) := by
  have sm := p.small
  have tx := tx_told sm
  have hx := p.lx
  have hy := p.ly
  have ha := p.ha
  have hb := p.hb
  have hl := sm.len
  rw [List.length_append] at hl
  have ax : ∀ i ∈ xs, i.natAbs < 10 ^ 40 := fun i hi => p.abs i (List.mem_append_left _ hi)
  have ay : ∀ i ∈ ys, i.natAbs < 10 ^ 40 := fun i hi => p.abs i (List.mem_append_right _ hi)
  have rp : ∀ (d : D) (S : Store), flatS S d = some (poiseP xs ys) → repF d S = .ok (.str (poiseP xs ys).shown) S := fun d S e => poise_show (by omega) (by omega) ax ay e
  have r0 := fun S => rp _ S (flat_poise xs ys S)
  have wr := fun S => write_ok xs ys (a : Int) (b : Int) S (by omega) (by omega) (by omega) (by omega) sm
  have sv := fun ρ S hi => str_vals ρ 2 (xs ++ ys) S hi sm
  have jv := fun S => join_vals (xs ++ ys) S sm
  have ep := fun S => eq_pair (told (xs ++ ys)) S tx.ok
  have gv := fun ρ S hi => great_vals ρ (xs ++ ys) S hi (by rw [List.length_append]; omega)
  simp only [List.map_append] at sv gv
  generalize hk : (poiseP xs ys).shown = kept at *
  have hd : G__law_back_right [.tup [.int a, .int b], poiseD xs ys] S = endB (m__law_back_right [some (.tup [.int a, .int b]), some (poiseD xs ys), none, none, none, none, none, none] S) := by rw [G__law_back_right]; exact run_eq _ _ _ _
  rw [hd]
  have w2 : ∀ S, (fun ds => G_write_setting (permD [1, 0] ds)) [poiseD xs ys, .tup [.int a, .int b]] S = .ok (.str (told (xs ++ ys))) S := fun S => wr S
  have e0 : atI [D.lst (xs.map .int), D.lst (ys.map .int)] 0 = some (.lst (xs.map .int)) := rfl
  have e1 : atI [D.lst (xs.map .int), D.lst (ys.map .int)] 1 = some (.lst (ys.map .int)) := rfl
  have lh : ∀ d1 d2 d3 d4 d5 d6 d7 d8 : Option D, 2 < [d1, d2, d3, d4, d5, d6, d7, d8].length := fun _ _ _ _ _ _ _ _ => by simp
  by_cases hg : ∀ v ∈ xs ++ ys, v.natAbs < 10 ^ 9
  · have gn : ∀ S, neF (.lst (((xs ++ ys).filter fun v => decide ((1000000000 : Int) ≤ (v.natAbs : Int))).map .int)) (.lst []) S = .ok (.bl false) S := fun S => by
      have e : ((xs ++ ys).filter fun v => decide ((1000000000 : Int) ≤ (v.natAbs : Int))) = [] := by
        rw [List.filter_eq_nil_iff]
        intro v hv
        have := hg v hv
        simp; omega
      have := ne_ints ((xs ++ ys).filter fun v => decide ((1000000000 : Int) ≤ (v.natAbs : Int))) [] S
      rw [e] at this ⊢
      exact this
    have rd := fun S => read_told p hg S
    have rk : ∀ S, (fun ds => G_read_setting (permD [1, 0] ds)) [.str (told (xs ++ ys)), .tup [.int a, .int b]] S = .ok (.tup [.loc (S.length + 1), .loc (S.length + 2)]) (S ++ [.lst ((xs ++ ys).map .int), .lst (xs.map .int), .lst (ys.map .int)]) := fun S => rd S
    have rr : ∀ S : Store, repF (.tup [.loc (S.length + 1), .loc (S.length + 2)]) (S ++ [.lst ((xs ++ ys).map .int), .lst (xs.map .int), .lst (ys.map .int)]) = .ok (.str kept) (S ++ [.lst ((xs ++ ys).map .int), .lst (xs.map .int), .lst (ys.map .int)]) := fun S => rp _ _ (flat_poiseL _ _ _ _ _ (by simp) (by simp))
    have key : ∃ S', endB (m__law_back_right [some (.tup [.int a, .int b]), some (poiseD xs ys), none, none, none, none, none, none] S) = .ok (.bl true) S' ∧ ∃ T, S' = S ++ T := by
      rw [m__law_back_right]
      refine ⟨(((S ++ [Cell.lst (List.map D.int (xs ++ ys)), Cell.lst (List.map D.int xs), Cell.lst (List.map D.int ys)] ++ [Cell.lst (List.map D.int (xs ++ ys)), Cell.lst (List.map D.int xs), Cell.lst (List.map D.int ys)]).set (S.length + 1) (Cell.lst (List.map D.int (xs ++ [0])))).set (S.length + 1 + 1) (Cell.lst (List.map D.int (ys ++ [0])))) ++ [Cell.lst (List.map D.int (xs ++ ys)), Cell.lst (List.map D.int xs), Cell.lst (List.map D.int ys)], end_rt ?h, ?k⟩
      case h =>
        walk_at "st"
        simp only [List.set_cons_succ, List.set_cons_zero]
        apply seq_eq
        · apply sfor_eq
          · walk_at "ev"
          · exact push_loop _ _ [] xs ys _ (S.length + 1) (by rw [List.append_assoc, get_app]; rfl) (by rw [List.append_assoc, Nat.add_assoc, get_app]; rfl) (by omega) (by omega) _ _ _ _ _ _ none
        · have hi := fun S : Store => lens_ok (S.length + 1) (S.length + 2) (xs ++ [0]) (ys ++ [0]) []
          generalize hS3 : (((S ++ [Cell.lst (List.map D.int (xs ++ ys)), Cell.lst (List.map D.int xs), Cell.lst (List.map D.int ys)] ++ [Cell.lst (List.map D.int (xs ++ ys)), Cell.lst (List.map D.int xs), Cell.lst (List.map D.int ys)]).set (S.length + 1) (Cell.lst (List.map D.int (xs ++ [0])))).set (S.length + 1 + 1) (Cell.lst (List.map D.int (ys ++ [0])))) = S3
          have lx : S3[S.length + 1]? = some (.lst ((xs ++ [0]).map .int)) := by rw [← hS3, List.getElem?_set_ne (by omega), List.getElem?_set_self (by simp)]
          have ly : S3[S.length + 2]? = some (.lst ((ys ++ [0]).map .int)) := by rw [← hS3]; exact List.getElem?_set_self (by simp)
          have lk := fun f1 f2 f3 f4 f5 f6 f7 f8 => lens_ok (S.length + 1) (S.length + 2) (xs ++ [0]) (ys ++ [0]) [] S3 lx ly f1 f2 f3 f4 f5 f6 f7 f8
          have nl : neF (.lst ([((xs ++ [0]).length : Int), ((ys ++ [0]).length : Int)].map .int)) (.lst [.int ((a : Int) + 1), .int ((b : Int) + 1)]) S3 = .ok (.bl false) S3 := by
            have := ne_ints [((xs ++ [0]).length : Int), ((ys ++ [0]).length : Int)] [(a : Int) + 1, (b : Int) + 1] S3
            rw [decide_eq_true (by simp; omega)] at this
            exact this
          have ee : ∀ S, eqF (.str kept) (.str kept) S = .ok (.bl true) S := fun S => by simp
          have p0 : atI [D.int a, D.int b] 0 = some (.int a) := rfl
          have p1 : atI [D.int a, D.int b] 1 = some (.int b) := rfl
          apply seq_eq
          · apply sif_f
            · apply bval_eq
              apply op2_eq
              · apply lc_eq
                · walk_at "ev"
                · exact lk _ _ _ _ _ _ _ _
                · exact finL_f
              · walk_at "ev"
              · exact nl
            · rfl
            · exact nx_eq
          · apply ret_eq
            apply op2_eq
            · walk_at "ev"
            · walk_at "ev"
            · exact ee _
      case k => exact ⟨_, by rw [List.append_assoc S, set_app, Nat.add_assoc, set_app, List.append_assoc]⟩
    obtain ⟨S', k1, T, k2⟩ := key
    exact ⟨T, by rw [k1, k2]⟩
  · have gn : ∀ S, neF (.lst (((xs ++ ys).filter fun v => decide ((1000000000 : Int) ≤ (v.natAbs : Int))).map .int)) (.lst []) S = .ok (.bl true) S := fun S => by
      have e : ((xs ++ ys).filter fun v => decide ((1000000000 : Int) ≤ (v.natAbs : Int))) ≠ [] := fun e => hg fun v hv => by
        rw [List.filter_eq_nil_iff] at e
        have := e v hv
        simp at this; omega
      have := ne_ints ((xs ++ ys).filter fun v => decide ((1000000000 : Int) ≤ (v.natAbs : Int))) [] S
      rw [decide_eq_false e] at this
      exact this
    obtain ⟨T, e⟩ := right_ok a b (told (xs ++ ys)) S ha hb tx
    refine ⟨T, ?_⟩
    rw [m__law_back_right]
    exact end_rt (by walk_at "st")
end K63

set_option maxHeartbeats 400000
namespace K63
open PySem PySem.Spec PyProof.Rows L2 MD
local macro_rules | `(tactic| walk_at "sz") => `(tactic| first | (simp only [List.length_append, List.length_cons, List.length_nil, List.length_map, List.length_take, List.length_drop, List.length_replicate]; omega) | (focus (simp; done)) | omega)
local macro_rules | `(tactic| walk_at "sq") => `(tactic| first | (with_reducible assumption) | (with_reducible exact seq_tup) | (with_reducible exact lst_lst) | (with_reducible exact seq_lst lst_lst) | ((with_reducible apply seq_lst); (with_reducible apply lst_loc); walk_at "ce") | ((with_reducible apply lst_loc); walk_at "ce"))
local macro_rules | `(tactic| walk_at "ce") => `(tactic| first | (with_reducible assumption) | (exact List.getElem?_set_self (by assumption)) | (focus (simp; done)))
local macro_rules | `(tactic| walk_at "lf") => `(tactic| first
  | (with_reducible assumption)
  | (with_reducible exact addF_int) | (with_reducible exact subF_int) | (with_reducible exact ltF_int) | (with_reducible exact leF_int) | (with_reducible exact gtF_int) | (with_reducible exact geF_int) | (with_reducible exact negF_int)
  | (with_reducible exact eqF_int _ _ _) | (with_reducible exact eqF_str _ _ _) | (with_reducible exact neF_int _ _ _) | (with_reducible exact neF_str _ _ _)
  | ((with_reducible apply one_eq); walk_at "lf")
  | ((with_reducible apply two_eq); walk_at "lf")
  | ((with_reducible apply newTup_eq); walk_at "sz")
  | ((with_reducible apply newL_f); walk_at "sz")
  | ((with_reducible apply newL_t); walk_at "sz")
  | (with_reducible exact finL_f) | (with_reducible exact finL_t)
  | ((with_reducible apply ixF_eq); (walk_at "sq"); first | (with_reducible assumption) | rfl)
  | ((with_reducible apply lenF_eq); walk_at "sq")
  | ((with_reducible apply lenF_str); walk_at "sz")
  | (with_reducible exact slF_tup)
  | ((with_reducible apply slF_str); walk_at "sz")
  | ((with_reducible apply slF_lst); (walk_at "sq"); (walk_at "lf"))
  | ((with_reducible apply addF_str); walk_at "sz")
  | ((with_reducible apply addF_tup); walk_at "sz")
  | ((with_reducible apply addF_lst); (walk_at "sq"); (walk_at "sq"); (walk_at "lf"))
  | (with_reducible solve_by_elim (maxDepth := 4)) | ((with_reducible apply_assumption) <;> first | assumption | (focus (simp; done))))
local macro_rules | `(tactic| walk_at "dc") => `(tactic| first
  | (with_reducible rfl) | (with_reducible assumption) | (simp only [decide_eq_true_eq, decide_eq_false_iff_not, Bool.not_eq_true', Bool.not_eq_false', Bool.not_eq_eq_eq_not, Bool.not_true, Bool.not_false]; first | omega | assumption) | (focus (simp; done)) | (focus (simp [*]; done)))
local macro_rules | `(tactic| walk_at "ev") => `(tactic| first
  | (with_reducible exact con_eq)
  | ((with_reducible apply var_eq); rfl)
  | (with_reducible exact nil_eq)
  | (with_reducible exact bYes_eq)
  | (with_reducible exact onone_eq)
  | ((with_reducible apply osome_eq); walk_at "ev")
  | ((with_reducible apply cons_eq); (walk_at "ev"); (walk_at "ev"))
  | ((with_reducible apply op2_eq); (walk_at "ev"); (walk_at "ev"); (walk_at "lf"))
  | ((with_reducible apply op1_eq); (walk_at "ev"); (walk_at "lf"))
  | ((with_reducible apply call_eq); (walk_at "ev"); (walk_at "lf"); rfl)
  | ((with_reducible apply app_eq); (walk_at "ev"); (walk_at "lf"))
  | ((with_reducible apply bval_eq); (walk_at "ev"))
  | ((with_reducible apply not_eq); (walk_at "ev"))
  | ((with_reducible apply mnot_eq); (walk_at "ev"))
  | ((with_reducible apply and_f); (walk_at "ev"); (walk_at "dc"))
  | ((with_reducible apply and_t); (walk_at "ev"); (walk_at "dc"); (walk_at "ev"))
  | ((with_reducible apply or_t); (walk_at "ev"); (walk_at "dc"))
  | ((with_reducible apply or_f); (walk_at "ev"); (walk_at "dc"); (walk_at "ev"))
  | ((with_reducible apply mand_f); (walk_at "ev"); (walk_at "dc"))
  | ((with_reducible apply mand_t); (walk_at "ev"); (walk_at "dc"); (walk_at "ev"))
  | ((with_reducible apply mor_t); (walk_at "ev"); (walk_at "dc"))
  | ((with_reducible apply mor_f); (walk_at "ev"); (walk_at "dc"); (walk_at "ev"))
  | ((with_reducible apply mif_t); (walk_at "ev"); (walk_at "dc"); (walk_at "ev"))
  | ((with_reducible apply mif_f); (walk_at "ev"); (walk_at "dc"); (walk_at "ev"))
  | ((with_reducible apply sl_eq); (walk_at "ev"); (walk_at "ev"); (walk_at "ev"); (walk_at "lf"))
  | ((with_reducible apply mts_eq); (walk_at "ev"); (walk_at "ev"); (walk_at "lf"))
  | ((with_reducible apply mtl_eq); (walk_at "ev"); (walk_at "sq"); (walk_at "ev"); (walk_at "lf"))
  | ((with_reducible apply lc_eq); (walk_at "ev"); (walk_at "lf"); (walk_at "lf"))
  | ((with_reducible apply itm_eq); (walk_at "ev"); (walk_at "sq"))
  | ((with_reducible apply itS_eq); (walk_at "ev"))
  | ((with_reducible apply ita_eq); (walk_at "ev"); (walk_at "lf")))
local macro_rules | `(tactic| walk_at "st") => `(tactic| first
  | (with_reducible exact nx_eq) | (with_reducible exact retN_eq) | (with_reducible exact raise_eq) | (with_reducible exact bk_eq) | (with_reducible exact ct_eq)
  | ((with_reducible apply seq_eq); (walk_at "st"); (try walk_at "st"))
  | ((with_reducible apply seq_exc); (walk_at "st"))
  | ((with_reducible apply seq_rt); (walk_at "st"))
  | ((with_reducible apply set_eq); (walk_at "ev"))
  | ((with_reducible apply exp_eq); (walk_at "ev"))
  | ((with_reducible apply ret_eq); (walk_at "ev"))
  | ((with_reducible apply par_eq); (walk_at "ev"))
  | ((with_reducible apply raiseF_eq); (walk_at "ev"))
  | ((with_reducible apply sif_t); (walk_at "ev"); (walk_at "dc"); (walk_at "st"))
  | ((with_reducible apply sif_f); (walk_at "ev"); (walk_at "dc"); (walk_at "st"))
  | ((with_reducible apply sfor_eq); (walk_at "ev"); (walk_at "lf")))

theorem draw_is : G__law_draw = drawG := rfl
theorem bag_is : G__law_bag = bagG := rfl
theorem plane_is : G__law_plane = planeG := rfl
def odds : List Str := ["0", "-0", "00", "-1", "+1", "", "1_0", "x", "123456789", "-123456789", "1234567890", "-1234567890", "0.0", "-"]
def signs : List Str := ["-", "0", "9", "_", " ", "", "+", "\n"]
theorem odds_asc : ∀ w ∈ odds, Asc 12 w := by
  have : odds.all (ascB 12) = true := by decide +kernel
  exact fun w hw => asc_of (List.all_eq_true.mp this w hw)
theorem signs_asc : ∀ w ∈ signs, Asc 1 w := by
  have : signs.all (ascB 1) = true := by decide +kernel
  exact fun w hw => asc_of (List.all_eq_true.mp this w hw)
abbrev od : List D := [D.str "0", .str "-0", .str "00", .str "-1", .str "+1", .str "", .str "1_0", .str "x", .str "123456789", .str "-123456789", .str "1234567890"] ++ [.str "-1234567890", .str "0.0", .str "-"]
theorem changed_ok {S : Store} {n B L c : Nat} {ws : List D} (b : Bag S n (B + 5)) (h : Wl L ws) (hc : ws.length ≤ c) (hc2 : c ≤ 1000) (hL : 12 ≤ L) (hL2 : L ≤ 1000) :
    ∃ (ws' : List D) (S' : Store), G__law_changed [.loc n, .lst ws] S = .ok (.lst ws') S' ∧ Wl (L + 1) ws' ∧ ws'.length ≤ c + 1 ∧ Bag S' n B ∧ Kp n S S' ∧ S'.length = S.length := by
  obtain ⟨d1, S1, e1, l1, b1, k1, z1⟩ := draw_nat od.length b (by decide) (by decide)
  obtain ⟨way, S2, e2, l2, b2, k2, z2⟩ := draw_nat 6 b1 (by omega) (by omega)
  obtain ⟨at_, S3, e3, l3, b3, k3, z3⟩ := draw_nat (ws.length + 1) b2 (by omega) (by omega)
  obtain ⟨o, ho, mo⟩ := atI_some (xs := odds.map .str) (d := d1) (by simpa [odds, od] using l1)
  obtain ⟨w, hw, rfl⟩ := List.mem_map.mp mo
  have aw := odds_asc w hw
  rw [← draw_is] at e1 e2 e3
  rw [Int.natCast_succ] at e3
  replace e2 : G__law_draw [.loc n, .int 6] S1 = .ok (.int way) S2 := e2
  have hd : G__law_changed [.loc n, .lst ws] S = endB (m__law_changed [some (.loc n), some (.lst ws), none, none, none, none, none, none, none] S) := by rw [G__law_changed]; exact run_eq _ _ _ _
  rw [hd, m__law_changed]
  have t1 := fun k : Nat => cutD_to ws k
  have ho' : atI od (d1 : Int) = some (.str w) := ho
  have kk := (k1.trans k2).trans k3
  have zz : S3.length = S.length := by omega
  have hl : ws.length ≤ 1000000 := by omega
  have s1 := fun S => slF_to (zs := ws) at_ rfl hl S
  have hw1 : Wl (L + 1) [.str w] := Wl.cons (aw.more (by omega)) Wl.nil
  have h' : Wl (L + 1) ws := h.more (by omega)
  by_cases c1 : way < 2
  · have s2 := fun S => slF_from (zs := ws) (i := (at_ : Int) + (way : Int)) (at_ + way) (by omega) hl S
    refine ⟨ws.take at_ ++ [.str w] ++ ws.drop (at_ + way), S3, end_rt (by walk_at "st"), ((h'.take _).app hw1).app (h'.drop _), ?_, b3.less (by omega), kk, zz⟩
    simp only [List.length_append, List.length_take, List.length_drop, List.length_cons, List.length_nil]; omega
  by_cases c2 : way = 2
  · have s2 := fun S => slF_from (zs := ws) (i := (at_ : Int) + 1) (at_ + 1) (by omega) hl S
    refine ⟨ws.take at_ ++ ws.drop (at_ + 1), S3, end_rt (by walk_at "st"), (h'.take _).app (h'.drop _), ?_, b3.less (by omega), kk, zz⟩
    simp only [List.length_append, List.length_take, List.length_drop, List.length_cons, List.length_nil]; omega
  by_cases c3 : way = 3
  · have s2 := fun S => slF_from (zs := ws) (i := (at_ : Int)) at_ rfl hl S
    have s3 := fun S => slF_mid (zs := ws) (i := (at_ : Int)) (j := (at_ : Int) + 1) at_ (at_ + 1) rfl (by omega) hl S
    refine ⟨ws.take at_ ++ (ws.drop at_).take (at_ + 1 - at_) ++ ws.drop at_, S3, end_rt (by walk_at "st"), ((h'.take _).app ((h'.drop _).take _)).app (h'.drop _), ?_, b3.less (by omega), kk, zz⟩
    simp only [List.length_append, List.length_take, List.length_drop, List.length_cons, List.length_nil]; omega
  by_cases c4 : at_ = ws.length
  · refine ⟨ws ++ [.str w], S3, end_rt (by walk_at "st"), h'.app hw1, ?_, b3.less (by omega), kk, zz⟩
    simp only [List.length_append, List.length_cons, List.length_nil]; omega
  obtain ⟨x, hx, mx⟩ := atI_some (xs := ws) (d := at_) (by omega)
  obtain ⟨v, rfl, av⟩ := h.mem x mx
  have hv := av.len
  obtain ⟨spot, S4, e4, l4, b4, k4, z4⟩ := draw_nat (v.length + 1) b3 (by omega) (by omega)
  obtain ⟨d8, S5, e5, l5, b5, k5, z5⟩ := draw_nat 8 b4 (by omega) (by omega)
  rw [← draw_is] at e4 e5
  rw [Int.natCast_succ] at e4
  replace e5 : G__law_draw [.loc n, .int 8] S4 = .ok (.int d8) S5 := e5
  obtain ⟨o2, ho2, mo2⟩ := atI_some (xs := signs.map .str) (d := d8) (by simpa [signs] using l5)
  obtain ⟨g, hg, rfl⟩ := List.mem_map.mp mo2
  have ag := signs_asc g hg
  have ho2' : atI [D.str "-", .str "0", .str "9", .str "_", .str " ", .str "", .str "+", .str "\n"] (d8 : Int) = some (.str g) := ho2
  have s2 := fun S => slF_from (zs := ws) (i := (at_ : Int) + 1) (at_ + 1) (by omega) hl S
  have a1 := av.to spot
  have hs : (spot : Int) + (way : Int) - 4 = ((spot + way - 4 : Nat) : Int) := by omega
  have a2 : Asc (L - (spot + way - 4)) (cutS v (some ((spot : Int) + (way : Int) - 4)) none) := by rw [hs]; exact av.from (spot + way - 4)
  have a3 := (a1.app ag).app a2
  have l1' := a1.len
  have l2' := a2.len
  have l3' := ag.len
  have l4' := (a1.app ag).len
  refine ⟨ws.take at_ ++ [.str (cutS v none (some (spot : Int)) ++ g ++ cutS v (some ((spot : Int) + (way : Int) - 4)) none)] ++ ws.drop (at_ + 1), S5, end_rt (by walk_at "st"), ((h'.take _).app (Wl.cons (a3.more (by omega)) Wl.nil)).app (h'.drop _), ?_, b5, kk.trans (k4.trans k5), by omega⟩
  simp only [List.length_append, List.length_take, List.length_drop, List.length_cons, List.length_nil]; omega
end K63

set_option maxHeartbeats 400000
namespace K63
open PySem PySem.Spec PyProof.Rows L2 MD
local macro_rules | `(tactic| walk_at "sz") => `(tactic| first | (simp only [List.length_append, List.length_cons, List.length_nil, List.length_map, List.length_take, List.length_drop, List.length_replicate]; omega) | (focus (simp; done)) | omega)
local macro_rules | `(tactic| walk_at "sq") => `(tactic| first | (with_reducible assumption) | (with_reducible exact seq_tup) | (with_reducible exact lst_lst) | (with_reducible exact seq_lst lst_lst) | ((with_reducible apply seq_lst); (with_reducible apply lst_loc); walk_at "ce") | ((with_reducible apply lst_loc); walk_at "ce"))
local macro_rules | `(tactic| walk_at "ce") => `(tactic| first | (with_reducible assumption) | (exact List.getElem?_set_self (by assumption)) | (focus (simp; done)))
local macro_rules | `(tactic| walk_at "lf") => `(tactic| first
  | (with_reducible assumption)
  | (with_reducible exact addF_int) | (with_reducible exact subF_int) | (with_reducible exact ltF_int) | (with_reducible exact leF_int) | (with_reducible exact gtF_int) | (with_reducible exact geF_int) | (with_reducible exact negF_int)
  | (with_reducible exact eqF_int _ _ _) | (with_reducible exact eqF_str _ _ _) | (with_reducible exact neF_int _ _ _) | (with_reducible exact neF_str _ _ _)
  | ((with_reducible apply one_eq); walk_at "lf")
  | ((with_reducible apply two_eq); walk_at "lf")
  | ((with_reducible apply newTup_eq); walk_at "sz")
  | ((with_reducible apply newL_f); walk_at "sz")
  | ((with_reducible apply newL_t); walk_at "sz")
  | (with_reducible exact finL_f) | (with_reducible exact finL_t)
  | ((with_reducible apply ixF_eq); (walk_at "sq"); first | (with_reducible assumption) | rfl)
  | ((with_reducible apply lenF_eq); walk_at "sq")
  | ((with_reducible apply lenF_str); walk_at "sz")
  | (with_reducible exact slF_tup)
  | ((with_reducible apply slF_str); walk_at "sz")
  | ((with_reducible apply slF_lst); (walk_at "sq"); (walk_at "lf"))
  | ((with_reducible apply addF_str); walk_at "sz")
  | ((with_reducible apply addF_tup); walk_at "sz")
  | ((with_reducible apply addF_lst); (walk_at "sq"); (walk_at "sq"); (walk_at "lf"))
  | (with_reducible solve_by_elim (maxDepth := 4)) | ((with_reducible apply_assumption) <;> first | assumption | (focus (simp; done))))
local macro_rules | `(tactic| walk_at "dc") => `(tactic| first
  | (with_reducible rfl) | (with_reducible assumption) | (simp only [decide_eq_true_eq, decide_eq_false_iff_not, Bool.not_eq_true', Bool.not_eq_false', Bool.not_eq_eq_eq_not, Bool.not_true, Bool.not_false]; first | omega | assumption) | (focus (simp; done)) | (focus (simp [*]; done)))
local macro_rules | `(tactic| walk_at "ev") => `(tactic| first
  | (with_reducible exact con_eq)
  | ((with_reducible apply var_eq); rfl)
  | (with_reducible exact nil_eq)
  | (with_reducible exact bYes_eq)
  | (with_reducible exact onone_eq)
  | ((with_reducible apply osome_eq); walk_at "ev")
  | ((with_reducible apply cons_eq); (walk_at "ev"); (walk_at "ev"))
  | ((with_reducible apply op2_eq); (walk_at "ev"); (walk_at "ev"); (walk_at "lf"))
  | ((with_reducible apply op1_eq); (walk_at "ev"); (walk_at "lf"))
  | ((with_reducible apply call_eq); (walk_at "ev"); (walk_at "lf"); rfl)
  | ((with_reducible apply app_eq); (walk_at "ev"); (walk_at "lf"))
  | ((with_reducible apply bval_eq); (walk_at "ev"))
  | ((with_reducible apply not_eq); (walk_at "ev"))
  | ((with_reducible apply mnot_eq); (walk_at "ev"))
  | ((with_reducible apply and_f); (walk_at "ev"); (walk_at "dc"))
  | ((with_reducible apply and_t); (walk_at "ev"); (walk_at "dc"); (walk_at "ev"))
  | ((with_reducible apply or_t); (walk_at "ev"); (walk_at "dc"))
  | ((with_reducible apply or_f); (walk_at "ev"); (walk_at "dc"); (walk_at "ev"))
  | ((with_reducible apply mand_f); (walk_at "ev"); (walk_at "dc"))
  | ((with_reducible apply mand_t); (walk_at "ev"); (walk_at "dc"); (walk_at "ev"))
  | ((with_reducible apply mor_t); (walk_at "ev"); (walk_at "dc"))
  | ((with_reducible apply mor_f); (walk_at "ev"); (walk_at "dc"); (walk_at "ev"))
  | ((with_reducible apply mif_t); (walk_at "ev"); (walk_at "dc"); (walk_at "ev"))
  | ((with_reducible apply mif_f); (walk_at "ev"); (walk_at "dc"); (walk_at "ev"))
  | ((with_reducible apply sl_eq); (walk_at "ev"); (walk_at "ev"); (walk_at "ev"); (walk_at "lf"))
  | ((with_reducible apply mts_eq); (walk_at "ev"); (walk_at "ev"); (walk_at "lf"))
  | ((with_reducible apply mtl_eq); (walk_at "ev"); (walk_at "sq"); (walk_at "ev"); (walk_at "lf"))
  | ((with_reducible apply lc_eq); (walk_at "ev"); (walk_at "lf"); (walk_at "lf"))
  | ((with_reducible apply itm_eq); (walk_at "ev"); (walk_at "sq"))
  | ((with_reducible apply itS_eq); (walk_at "ev"))
  | ((with_reducible apply ita_eq); (walk_at "ev"); (walk_at "lf")))
local macro_rules | `(tactic| walk_at "st") => `(tactic| first
  | (with_reducible exact nx_eq) | (with_reducible exact retN_eq) | (with_reducible exact raise_eq) | (with_reducible exact bk_eq) | (with_reducible exact ct_eq)
  | ((with_reducible apply seq_eq); (walk_at "st"); (try walk_at "st"))
  | ((with_reducible apply seq_exc); (walk_at "st"))
  | ((with_reducible apply seq_rt); (walk_at "st"))
  | ((with_reducible apply set_eq); (walk_at "ev"))
  | ((with_reducible apply exp_eq); (walk_at "ev"))
  | ((with_reducible apply ret_eq); (walk_at "ev"))
  | ((with_reducible apply par_eq); (walk_at "ev"))
  | ((with_reducible apply raiseF_eq); (walk_at "ev"))
  | ((with_reducible apply sif_t); (walk_at "ev"); (walk_at "dc"); (walk_at "st"))
  | ((with_reducible apply sif_f); (walk_at "ev"); (walk_at "dc"); (walk_at "st"))
  | ((with_reducible apply sfor_eq); (walk_at "ev"); (walk_at "lf")))

/-- the bag at n; the rest stays -/
structure At (S0 : Store) (n B : Nat) (S : Store) : Prop where
  b : Bag S n B
  k : Kp n S0 S
theorem At.draw {S0 S : Store} {n B : Nat} (a : At S0 n (B + 1) S) (m : Nat) (hm : 1 ≤ m) (hm2 : m < 10 ^ 40) : ∃ (d : Nat) (S' : Store), G__law_draw [.loc n, .int m] S = .ok (.int d) S' ∧ d < m ∧ At S0 n B S' := by
  obtain ⟨d, S', e, l, b, k, z⟩ := draw_nat m a.b hm hm2
  exact ⟨d, S', e, l, b, a.k.trans k⟩
theorem At.app {S0 S : Store} {n B : Nat} (a : At S0 n B S) (T : Store) : At S0 n B (S ++ T) := ⟨a.b.app T, a.k.trans (Kp.app _ _ _)⟩
theorem At.less {S0 S : Store} {n A B : Nat} (a : At S0 n B S) (h : A ≤ B) : At S0 n A S := ⟨a.b.less h, a.k⟩
noncomputable abbrev rowE : EM := mOp2 (addF false) (mOp2 subF (mApp (argN 2 G__law_draw) (aCons (mVar 2) (aCons (mOp2 subF (mOp2 mulF (mC (.int 2)) (mVar 5)) (mC (.int 1))) (aNil)))) (mVar 5)) (mC (.int 1))
noncomputable abbrev rowsE : EM := mLc false (mItA rng1F (aCons (mVar 7) (aNil))) (gN 6) (bYes) rowE [6]
/-- one row of values -/
theorem row_ok (s c p k o7 o8 o9 o10 o11 o12 : Option D) {S0 S : Store} {n B : Nat} (g m : Nat) (hg : 1 ≤ g) (hg2 : g ≤ 10 ^ 31) (hm : m ≤ 3) (a : At S0 n (B + m) S) :
    ∃ (xs : List Int) (S' : Store), rowsE [s, c, some (.loc n), p, k, some (.int g), o7, some (.int m), o8, o9, o10, o11, o12] S = .ok (.lst (xs.map .int)) S' ∧ xs.length = m ∧ (∀ v ∈ xs, v.natAbs < 10 ^ 40) ∧ At S0 n B S' := by
  have r1 := rng1_run (m : Int) (by omega) S
  rw [Int.toNat_natCast] at r1
  have key := lcL_eff (ck := fun _ => true) (g := gN 6) (te := rowE) (vs := [6]) (ρ := [s, c, some (.loc n), p, k, some (.int g), o7, some (.int m), o8, o9, o10, o11, o12]) (fun k S => At S0 n (B + k) S) (fun _ d => ∃ v : Int, d = .int v ∧ v.natAbs < 10 ^ 40) (fun _ _ _ => rfl) (rngD 0 m) [] S (fun x hx k S hk => by
    obtain ⟨d, S', e, l, a'⟩ := hk.draw (2 * g - 1) (by omega) (by omega)
    have e1 : ((2 * g - 1 : Nat) : Int) = 2 * (g : Int) - 1 := by omega
    rw [e1] at e
    have e2 := fun S => mulF_ok S (cmul_l (i := 2) (j := (g : Int)) (by omega) (by omega))
    have hv : ((d : Int) - (g : Int) + 1).natAbs < 10 ^ 40 := by omega
    refine ⟨_, .int ((d : Int) - (g : Int) + 1), S', rfl, ?_, ⟨_, rfl, hv⟩, a'⟩
    clear hv hg2 r1
    simp only [wipeE, List.set_cons_succ, List.set_cons_zero]
    walk_at "ev") (by rw [rngD_len, sizeLine_eq]; simp; omega) (by rw [rngD_len]; exact a)
  obtain ⟨ds, S', e, f, i⟩ := key
  have hl : ∀ {xs ds : List D}, F2 (fun _ d => ∃ v : Int, d = .int v ∧ v.natAbs < 10 ^ 40) xs ds → ∃ vs : List Int, ds = vs.map .int ∧ vs.length = xs.length ∧ ∀ v ∈ vs, v.natAbs < 10 ^ 40 := by
    intro xs ds f
    induction f with
    | nil => exact ⟨[], rfl, rfl, fun _ h => nomatch h⟩
    | cons r _ ih =>
      obtain ⟨v, rfl, hv⟩ := r
      obtain ⟨vs, rfl, h1, h2⟩ := ih
      exact ⟨v :: vs, rfl, by simp [h1], fun y hy => by
        rcases List.mem_cons.mp hy with hy | hy
        · rw [hy]; exact hv
        · exact h2 y hy⟩
  obtain ⟨vs, rfl, h1, h2⟩ := hl f
  refine ⟨vs, S', lc_eq (ita_eq (cons_eq (var_eq rfl) nil_eq) r1) e ?_, by rw [h1, rngD_len], h2, i⟩
  exact finL_f
/-- both rows -/
theorem rows_ok (s c k o6 o7 o8 o9 o10 o11 o12 : Option D) {S0 S : Store} {n B : Nat} (g x y : Nat) (hg : 1 ≤ g) (hg2 : g ≤ 10 ^ 31) (hx : 1 ≤ x ∧ x ≤ 3) (hy : 1 ≤ y ∧ y ≤ 3) (a : At S0 n (B + 6) S) :
    ∃ (xs ys : List Int) (S' : Store), Poise x y xs ys ∧ At S0 n B S' ∧
      lcL (ckOf (.tup [.int x, .int y]) [.int x, .int y]) (gN 7) bYes rowsE [7] [s, c, some (.loc n), some (.tup [.int x, .int y]), k, some (.int g), o6, o7, o8, o9, o10, o11, o12] [.int x, .int y] [] S = .ok [.lst (xs.map .int), .lst (ys.map .int)] S' := by
  obtain ⟨xs, S1, e1, l1, h1, a1⟩ := row_ok s c (some (.tup [.int x, .int y])) k o6 o8 o9 o10 o11 o12 (B := B + 3) g x hg hg2 hx.2 (a.less (by omega))
  obtain ⟨ys, S2, e2, l2, h2, a2⟩ := row_ok s c (some (.tup [.int x, .int y])) k o6 o8 o9 o10 o11 o12 (B := B) g y hg hg2 hy.2 (a1.less (by omega))
  refine ⟨xs, ys, S2, ⟨l1, l2, hx, hy, fun v hv => (List.mem_append.mp hv).elim (h1 v) (h2 v)⟩, a2, ?_⟩
  exact lc_step rfl rfl e1 (by simp) (lc_step rfl rfl e2 (by simp) (lc_done rfl))
/-- the words are changed once, twice -/
noncomputable abbrev chLoop : SM := sFor (mItA rng1F (aCons (mOp2 (addF false) (mC (.int 1)) (mApp (argN 2 G__law_draw) (aCons (mVar 2) (aCons (mC (.int 2)) (aNil))))) (aNil))) (gN 6) (sSet (mApp (argN 2 G__law_changed) (aCons (mVar 2) (aCons (mVar 10) (aNil)))) 10)
theorem change_ok (s c p k g o6 o7 o8 o9 o11 o12 : Option D) {S0 S : Store} {n B : Nat} {ws : List D} (h : Wl 41 ws) (hl : ws.length ≤ 6) (a : At S0 n (B + 11) S) :
    ∃ (ws' : List D) (o6' : Option D) (S' : Store), chLoop [s, c, some (.loc n), p, k, g, o6, o7, o8, o9, some (.lst ws), o11, o12] S = .nx [s, c, some (.loc n), p, k, g, o6', o7, o8, o9, some (.lst ws'), o11, o12] S' ∧ Wl 43 ws' ∧ ws'.length ≤ 8 ∧ At S0 n B S' := by
  obtain ⟨d, S1, e, l, a1⟩ := a.draw 2 (by omega) (by omega)
  replace e : G__law_draw [.loc n, .int 2] S = .ok (.int d) S1 := e
  have r1 := rng1_run (1 + (d : Int)) (by omega) S1
  have tn : (1 + (d : Int)).toNat = 1 + d := by omega
  rw [tn] at r1
  have key := forL_inv (ck := fun _ => true) (g := gN 6) (body := sSet (mApp (argN 2 G__law_changed) (aCons (mVar 2) (aCons (mVar 10) (aNil)))) 10)
    (fun j ρ S => ∃ (ws' : List D) (o6' : Option D), ρ = [s, c, some (.loc n), p, k, g, o6', o7, o8, o9, some (.lst ws'), o11, o12] ∧ Wl (43 - j) ws' ∧ ws'.length ≤ 8 - j ∧ j ≤ 2 ∧ At S0 n (B + 5 * j) S) (fun _ _ _ _ => rfl) (rngD 0 (1 + d)) [s, c, some (.loc n), p, k, g, o6, o7, o8, o9, some (.lst ws), o11, o12] S1 (fun x hx j ρ S hI => by
      obtain ⟨ws', o6', rfl, w1, w2, w3, w4⟩ := hI
      obtain ⟨ws2, S2, e2, v1, v2, v3, v4, v5⟩ := changed_ok (B := B + 5 * j) (w4.b.less (by omega)) w1 w2 (by omega) (by omega) (by omega)
      refine ⟨_, [s, c, some (.loc n), p, k, g, some x, o7, o8, o9, some (.lst ws2), o11, o12], S2, rfl, set_eq (call_eq (cons_eq (var_eq rfl) (cons_eq (var_eq rfl) nil_eq)) e2), ws2, some x, rfl, v1.more (by omega), by omega, by omega, v3, w4.k.trans v4⟩)
    (by rw [rngD_len]; exact ⟨ws, o6, rfl, h.more (by omega), by omega, by omega, a1.less (by omega)⟩)
  obtain ⟨ρ', S', e3, ws', o6', rfl, w1, w2, _, w4⟩ := key
  exact ⟨ws', o6', S', sfor_eq (ita_eq (cons_eq (op2_eq con_eq (call_eq (cons_eq (var_eq rfl) (cons_eq con_eq nil_eq)) e) addF_int) nil_eq) r1) e3, w1, w2, w4⟩
end K63

set_option maxHeartbeats 400000
namespace K63
open PySem PySem.Spec PyProof.Rows L2 MD
local macro_rules | `(tactic| walk_at "sz") => `(tactic| first | (simp only [List.length_append, List.length_cons, List.length_nil, List.length_map, List.length_take, List.length_drop, List.length_replicate]; omega) | (focus (simp; done)) | omega)
local macro_rules | `(tactic| walk_at "sq") => `(tactic| first | (with_reducible assumption) | (with_reducible exact seq_tup) | (with_reducible exact lst_lst) | (with_reducible exact seq_lst lst_lst) | ((with_reducible apply seq_lst); (with_reducible apply lst_loc); walk_at "ce") | ((with_reducible apply lst_loc); walk_at "ce"))
local macro_rules | `(tactic| walk_at "ce") => `(tactic| first | (with_reducible assumption) | (exact List.getElem?_set_self (by assumption)) | (focus (simp; done)))
local macro_rules | `(tactic| walk_at "lf") => `(tactic| first
  | (with_reducible assumption)
  | (with_reducible exact addF_int) | (with_reducible exact subF_int) | (with_reducible exact ltF_int) | (with_reducible exact leF_int) | (with_reducible exact gtF_int) | (with_reducible exact geF_int) | (with_reducible exact negF_int)
  | (with_reducible exact eqF_int _ _ _) | (with_reducible exact eqF_str _ _ _) | (with_reducible exact neF_int _ _ _) | (with_reducible exact neF_str _ _ _)
  | ((with_reducible apply one_eq); walk_at "lf")
  | ((with_reducible apply two_eq); walk_at "lf")
  | ((with_reducible apply newTup_eq); walk_at "sz")
  | ((with_reducible apply newL_f); walk_at "sz")
  | ((with_reducible apply newL_t); walk_at "sz")
  | (with_reducible exact finL_f) | (with_reducible exact finL_t)
  | ((with_reducible apply ixF_eq); (walk_at "sq"); first | (with_reducible assumption) | rfl)
  | ((with_reducible apply lenF_eq); walk_at "sq")
  | ((with_reducible apply lenF_str); walk_at "sz")
  | (with_reducible exact slF_tup)
  | ((with_reducible apply slF_str); walk_at "sz")
  | ((with_reducible apply slF_lst); (walk_at "sq"); (walk_at "lf"))
  | ((with_reducible apply addF_str); walk_at "sz")
  | ((with_reducible apply addF_tup); walk_at "sz")
  | ((with_reducible apply addF_lst); (walk_at "sq"); (walk_at "sq"); (walk_at "lf"))
  | (with_reducible solve_by_elim (maxDepth := 4)) | ((with_reducible apply_assumption) <;> first | assumption | (focus (simp; done))))
local macro_rules | `(tactic| walk_at "dc") => `(tactic| first
  | (with_reducible rfl) | (with_reducible assumption) | (simp only [decide_eq_true_eq, decide_eq_false_iff_not, Bool.not_eq_true', Bool.not_eq_false', Bool.not_eq_eq_eq_not, Bool.not_true, Bool.not_false]; first | omega | assumption) | (focus (simp; done)) | (focus (simp [*]; done)))
local macro_rules | `(tactic| walk_at "ev") => `(tactic| first
  | (with_reducible exact con_eq)
  | ((with_reducible apply var_eq); rfl)
  | (with_reducible exact nil_eq)
  | (with_reducible exact bYes_eq)
  | (with_reducible exact onone_eq)
  | ((with_reducible apply osome_eq); walk_at "ev")
  | ((with_reducible apply cons_eq); (walk_at "ev"); (walk_at "ev"))
  | ((with_reducible apply op2_eq); (walk_at "ev"); (walk_at "ev"); (walk_at "lf"))
  | ((with_reducible apply op1_eq); (walk_at "ev"); (walk_at "lf"))
  | ((with_reducible apply call_eq); (walk_at "ev"); (walk_at "lf"); rfl)
  | ((with_reducible apply app_eq); (walk_at "ev"); (walk_at "lf"))
  | ((with_reducible apply bval_eq); (walk_at "ev"))
  | ((with_reducible apply not_eq); (walk_at "ev"))
  | ((with_reducible apply mnot_eq); (walk_at "ev"))
  | ((with_reducible apply and_f); (walk_at "ev"); (walk_at "dc"))
  | ((with_reducible apply and_t); (walk_at "ev"); (walk_at "dc"); (walk_at "ev"))
  | ((with_reducible apply or_t); (walk_at "ev"); (walk_at "dc"))
  | ((with_reducible apply or_f); (walk_at "ev"); (walk_at "dc"); (walk_at "ev"))
  | ((with_reducible apply mand_f); (walk_at "ev"); (walk_at "dc"))
  | ((with_reducible apply mand_t); (walk_at "ev"); (walk_at "dc"); (walk_at "ev"))
  | ((with_reducible apply mor_t); (walk_at "ev"); (walk_at "dc"))
  | ((with_reducible apply mor_f); (walk_at "ev"); (walk_at "dc"); (walk_at "ev"))
  | ((with_reducible apply mif_t); (walk_at "ev"); (walk_at "dc"); (walk_at "ev"))
  | ((with_reducible apply mif_f); (walk_at "ev"); (walk_at "dc"); (walk_at "ev"))
  | ((with_reducible apply sl_eq); (walk_at "ev"); (walk_at "ev"); (walk_at "ev"); (walk_at "lf"))
  | ((with_reducible apply mts_eq); (walk_at "ev"); (walk_at "ev"); (walk_at "lf"))
  | ((with_reducible apply mtl_eq); (walk_at "ev"); (walk_at "sq"); (walk_at "ev"); (walk_at "lf"))
  | ((with_reducible apply lc_eq); (walk_at "ev"); (walk_at "lf"); (walk_at "lf"))
  | ((with_reducible apply itm_eq); (walk_at "ev"); (walk_at "sq"))
  | ((with_reducible apply itS_eq); (walk_at "ev"))
  | ((with_reducible apply ita_eq); (walk_at "ev"); (walk_at "lf")))
local macro_rules | `(tactic| walk_at "st") => `(tactic| first
  | (with_reducible exact nx_eq) | (with_reducible exact retN_eq) | (with_reducible exact raise_eq) | (with_reducible exact bk_eq) | (with_reducible exact ct_eq)
  | ((with_reducible apply seq_eq); (walk_at "st"); (try walk_at "st"))
  | ((with_reducible apply seq_exc); (walk_at "st"))
  | ((with_reducible apply seq_rt); (walk_at "st"))
  | ((with_reducible apply set_eq); (walk_at "ev"))
  | ((with_reducible apply exp_eq); (walk_at "ev"))
  | ((with_reducible apply ret_eq); (walk_at "ev"))
  | ((with_reducible apply par_eq); (walk_at "ev"))
  | ((with_reducible apply raiseF_eq); (walk_at "ev"))
  | ((with_reducible apply sif_t); (walk_at "ev"); (walk_at "dc"); (walk_at "st"))
  | ((with_reducible apply sif_f); (walk_at "ev"); (walk_at "dc"); (walk_at "st"))
  | ((with_reducible apply sfor_eq); (walk_at "ev"); (walk_at "lf")))

noncomputable abbrev kGreat : SM := sSet (mOp2 ixF (mApp (newL false) (aCons (mC (.int 5)) (aCons (mOp2 powF (mC (.int 10)) (mC (.int 9))) (aCons (mOp2 powF (mC (.int 10)) (mC (.int 10))) (aCons (mOp2 powF (mC (.int 10)) (mC (.int 31))) (aNil)))))) (mApp (argN 2 G__law_draw) (aCons (mVar 2) (aCons (mC (.int 4)) (aNil))))) 5
noncomputable abbrev kRows : SM := sSet (mLc false (mIt (mVar 3)) (gN 7) (bYes) (mLc false (mItA rng1F (aCons (mVar 7) (aNil))) (gN 6) (bYes) (mOp2 (addF false) (mOp2 subF (mApp (argN 2 G__law_draw) (aCons (mVar 2) (aCons (mOp2 subF (mOp2 mulF (mC (.int 2)) (mVar 5)) (mC (.int 1))) (aNil)))) (mVar 5)) (mC (.int 1))) [6]) [7]) 8
noncomputable abbrev kBack : SM := sIf (bNot (bVal (mApp (argN 2 G__law_back_right) (aCons (mVar 3) (aCons (mApp newTup (aCons (mOp2 ixF (mVar 8) (mC (.int 0))) (aCons (mOp2 ixF (mVar 8) (mC (.int 1))) (aNil)))) (aNil)))))) (sRet (mC (.bl false))) (sNx)
noncomputable abbrev kWords : SM := sSet (mLc false (mIt (mOp2 (addF false) (mOp2 ixF (mVar 8) (mC (.int 0))) (mOp2 ixF (mVar 8) (mC (.int 1))))) (gN 9) (bYes) (mApp (one strF) (aCons (mVar 9) (aNil))) [9]) 10
noncomputable abbrev kChange : SM := sFor (mItA rng1F (aCons (mOp2 (addF false) (mC (.int 1)) (mApp (argN 2 G__law_draw) (aCons (mVar 2) (aCons (mC (.int 2)) (aNil))))) (aNil))) (gN 6) (sSet (mApp (argN 2 G__law_changed) (aCons (mVar 2) (aCons (mVar 10) (aNil)))) 10)
noncomputable abbrev kTold : SM := sSet (mMtS joinF (mC (.str " ")) (aCons (mVar 10) (aNil))) 11
noncomputable abbrev kBent1 : SM := sSet (mApp (newL false) (aCons (mOp2 (addF false) (mC (.str " ")) (mVar 11)) (aCons (mOp2 (addF false) (mVar 11) (mC (.str " "))) (aCons (mOp1 (replF " " "  ") (mVar 11)) (aCons (mOp2 (addF false) (mVar 11) (mC (.str "\n"))) (aCons (mOp1 (replF " " "\n") (mVar 11)) (aCons (mC (.str "")) (aNil)))))))) 12
noncomputable abbrev kBent2 : SM := sSet (mOp2 (addF false) (mVar 12) (mApp (newL false) (aCons (mOp2 (addF false) (mC (.str "\n")) (mVar 11)) (aCons (mOp1 (replF " " " \n") (mVar 11)) (aCons (mOp2 mulSF (mC (.str "1 ")) (mC (.int 1000))) (aNil)))))) 12
noncomputable abbrev kRight1 : SM := sIf (bOr (bNot (bVal (mApp (argN 2 G__law_right) (aCons (mVar 3) (aCons (mVar 11) (aNil)))))) (bNot (bVal (mApp (argN 2 G__law_right) (aCons (mVar 3) (aCons (mOp2 ixF (mVar 12) (mApp (argN 2 G__law_draw) (aCons (mVar 2) (aCons (mC (.int 9)) (aNil))))) (aNil))))))) (sRet (mC (.bl false))) (sNx)
noncomputable abbrev kRight2 : SM := sIf (bOr (bNot (bVal (mApp (argN 2 G__law_right) (aCons (mApp newTup (aCons (mC (.int 1)) (aCons (mC (.int 1)) (aNil)))) (aCons (mVar 11) (aNil)))))) (bNot (bVal (mApp (argN 2 G__law_right) (aCons (mVar 3) (aCons (mVar 11) (aNil))))))) (sRet (mC (.bl false))) (sNx)
noncomputable abbrev kBody : SM := sSeq kGreat (sSeq kRows (sSeq kBack (sSeq kWords (sSeq kChange (sSeq kTold (sSeq kBent1 (sSeq kBent2 (sSeq kRight1 kRight2))))))))
noncomputable abbrev kLoop : SM := sFor (mItA rng1F (aCons (mC (.int 4)) (aNil))) (gN 4) kBody
noncomputable abbrev cBag : SM := sSet (mApp (argN 1 G__law_bag) (aCons (mVar 1) (aNil))) 2
noncomputable abbrev cPlane : SM := sSet (mApp (argN 1 G__law_plane) (aCons (mVar 2) (aNil))) 3
noncomputable abbrev cLoop : SM := sFor (mIt (mOp2 (addF false) (mApp (newL false) (aCons (mC (.int 0)) (aNil))) (mSl false (mVar 0) (oNone) (oSome (mC (.int 12)))))) (gN 1) (sSeq cBag (sSeq cPlane kLoop))
theorem m_law_is : m_law = sSeq cLoop (sRet (mC (.bl true))) := rfl
theorem great_ok (s c p k o5 o6 o7 o8 o9 o10 o11 o12 : Option D) {S0 S : Store} {n B : Nat} (a : At S0 n (B + 1) S) : ∃ (g : Nat) (S' : Store), kGreat [s, c, some (.loc n), p, k, o5, o6, o7, o8, o9, o10, o11, o12] S = .nx [s, c, some (.loc n), p, k, some (.int g), o6, o7, o8, o9, o10, o11, o12] S' ∧ 1 ≤ g ∧ g ≤ 10 ^ 31 ∧ At S0 n B S' := by
  obtain ⟨d, S1, e, l, a1⟩ := a.draw 4 (by omega) (by omega)
  replace e : G__law_draw [.loc n, .int 4] S = .ok (.int d) S1 := e
  have p9 : ∀ S, powF (.int 10) (.int 9) S = .ok (.int ((10 ^ 9 : Nat) : Int)) S := fun S => powF_ok S (by decide) (by decide) (by decide)
  have p10 : ∀ S, powF (.int 10) (.int 10) S = .ok (.int ((10 ^ 10 : Nat) : Int)) S := fun S => powF_ok S (by decide) (by decide) (by decide)
  have p31 : ∀ S, powF (.int 10) (.int 31) S = .ok (.int ((10 ^ 31 : Nat) : Int)) S := fun S => powF_ok S (by decide) (by decide) (by decide)
  obtain ⟨x, hx, mx⟩ := atI_some (xs := ([5, 10 ^ 9, 10 ^ 10, 10 ^ 31] : List Nat).map fun i : Nat => D.int i) (d := d) (by simpa using l)
  obtain ⟨g, hg, rfl⟩ := List.mem_map.mp mx
  have hg' : 1 ≤ g ∧ g ≤ 10 ^ 31 := by
    simp only [List.mem_cons, List.not_mem_nil, or_false] at hg
    rcases hg with h | h | h | h <;> subst h <;> exact ⟨by decide, by decide⟩
  refine ⟨g, S1, set_eq (op2_eq (app_eq (cons_eq con_eq (cons_eq (op2_eq con_eq con_eq (p9 _)) (cons_eq (op2_eq con_eq con_eq (p10 _)) (cons_eq (op2_eq con_eq con_eq (p31 _)) nil_eq)))) (newL_f (by decide) _)) (call_eq (cons_eq (var_eq rfl) (cons_eq con_eq nil_eq)) e) (ixF_eq (seq_lst lst_lst) hx)), hg'.1, hg'.2, a1⟩
theorem asc_tx {L : Nat} {t : Str} (a : Asc L t) (h : L ≤ 900000) : Tx t := ⟨Nat.le_trans a.len h, strOk_iff.mpr fun c hc => Nat.lt_trans (a.asc c hc) (by decide)⟩
theorem asc_txt {v : Int} (h : v.natAbs < 10 ^ 40) : Asc 41 (Str.ofString (toString v)) := ⟨len_txt h, fun c hc => by rcases text_signs hc with z | z <;> omega⟩
theorem join_asc {L m : Nat} {ws : List Str} (h : ∀ w ∈ ws, Asc L w) (hl : ws.length ≤ m) : Asc (m * L + m) (Txt.join " " ws) := by
  refine ⟨?_, fun c hc => ?_⟩
  · have j := join_len ws
    have s := sum_le (l := ws.map (·.length)) (k := L) (fun x hx => by
      obtain ⟨w, hw, rfl⟩ := List.mem_map.mp hx
      exact (h w hw).len)
    rw [List.length_map] at s
    have := Nat.mul_le_mul_right L hl
    omega
  · rcases join_mem hc with z | ⟨w, hw, z⟩
    · omega
    · exact (h w hw).asc c z
theorem back_step {x y : Nat} {xs ys : List Int} (s c k g o6 o7 o9 o10 o11 o12 bag : Option D) {S0 S : Store} {n B : Nat} (h : Poise x y xs ys) (a : At S0 n B S) :
    ∃ S', kBack [s, c, bag, some (.tup [.int x, .int y]), k, g, o6, o7, some (.lst [.lst (xs.map .int), .lst (ys.map .int)]), o9, o10, o11, o12] S = .nx [s, c, bag, some (.tup [.int x, .int y]), k, g, o6, o7, some (.lst [.lst (xs.map .int), .lst (ys.map .int)]), o9, o10, o11, o12] S' ∧ At S0 n B S' := by
  obtain ⟨T, e⟩ := back_ok h S
  refine ⟨S ++ T, ?_, a.app T⟩
  exact sif_f (not_eq (bval_eq (call_eq (cons_eq (var_eq rfl) (cons_eq (app_eq (cons_eq (op2_eq (var_eq rfl) con_eq (ixF_eq (seq_lst lst_lst) rfl)) (cons_eq (op2_eq (var_eq rfl) con_eq (ixF_eq (seq_lst lst_lst) rfl)) nil_eq)) (newTup_eq (by simp) _)) nil_eq)) e))) rfl nx_eq
theorem words_step {xs ys : List Int} (s c b p k g o6 o7 o9 o10 o11 o12 : Option D) {S : Store} (h : Small (xs ++ ys)) :
    kWords [s, c, b, p, k, g, o6, o7, some (.lst [.lst (xs.map .int), .lst (ys.map .int)]), o9, o10, o11, o12] S = .nx [s, c, b, p, k, g, o6, o7, some (.lst [.lst (xs.map .int), .lst (ys.map .int)]), o9, some (.lst ((txts (xs ++ ys)).map .str)), o11, o12] S := by
  have sv := str_vals [s, c, b, p, k, g, o6, o7, some (.lst [.lst (xs.map .int), .lst (ys.map .int)]), o9, o10, o11, o12] 9 (xs ++ ys) S (by simp) h
  have hl := h.len
  simp only [List.map_append] at sv
  exact set_eq (lc_eq (itm_eq (op2_eq (op2_eq (var_eq rfl) con_eq (ixF_eq (seq_lst lst_lst) rfl)) (op2_eq (var_eq rfl) con_eq (ixF_eq (seq_lst lst_lst) rfl)) (addF_lst lst_lst lst_lst (newL_f (by rw [List.length_append] at hl ⊢; simp; omega) _))) (seq_lst lst_lst)) sv finL_f)
theorem told_step {zs : List Str} (s c b p k g o6 o7 o8 o9 o11 o12 : Option D) {S : Store} (h : ∀ w ∈ zs, Asc 43 w) (hl : zs.length ≤ 8) :
    kTold [s, c, b, p, k, g, o6, o7, o8, o9, some (.lst (zs.map .str)), o11, o12] S = .nx [s, c, b, p, k, g, o6, o7, o8, o9, some (.lst (zs.map .str)), some (.str (Txt.join " " zs)), o12] S := by
  have hs := sum_le (l := zs.map (·.length)) (k := 43) (fun x hx => by
    obtain ⟨w, hw, rfl⟩ := List.mem_map.mp hx
    exact (h w hw).len)
  have e1 : Str.length " " = 1 := by decide
  have j : joinF " " [.lst (zs.map .str)] S = .ok (.str (Txt.join " " zs)) S := by
    unfold joinF
    simp only [seqOf_lst, strsD_map]
    rw [e1]
    exact if_pos (by rw [List.length_map] at hs; omega)
  exact set_eq (mts_eq con_eq (cons_eq (var_eq rfl) nil_eq) j)
def ones : Str := Txt.mul (Str.ofString "1 ") 1000
theorem ones_asc : Asc 2000 ones := asc_of (by decide +kernel)
def bents (t : Str) : List Str := [Str.ofString " " ++ t, t ++ Str.ofString " ", Txt.replace t " " "  ", t ++ Str.ofString "\n", Txt.replace t " " "\n", Str.ofString "", Str.ofString "\n" ++ t, Txt.replace t " " " \n", ones]
theorem bents_asc {t : Str} (a : Asc 352 t) : ∀ w ∈ bents t, Asc 3000 w := by
  have a1 : Asc 1 (Str.ofString " ") := asc_of (by decide +kernel)
  have a2 : Asc 2 (Str.ofString "  ") := asc_of (by decide +kernel)
  have a3 : Asc 1 (Str.ofString "\n") := asc_of (by decide +kernel)
  have a4 : Asc 2 (Str.ofString " \n") := asc_of (by decide +kernel)
  have a5 : Asc 0 (Str.ofString "") := asc_of (by decide +kernel)
  intro w hw
  simp only [bents, List.mem_cons, List.not_mem_nil, or_false] at hw
  rcases hw with h | h | h | h | h | h | h | h | h <;> subst h
  · exact (a1.app a).more (by decide)
  · exact (a.app a1).more (by decide)
  · exact (repl_asc a a2).more (by decide)
  · exact (a.app a3).more (by decide)
  · exact (repl_asc a a3).more (by decide)
  · exact a5.more (by decide)
  · exact (a3.app a).more (by decide)
  · exact (repl_asc a a4).more (by decide)
  · exact ones_asc.more (by decide)
theorem bent_step {t : Str} (s c b p k g o6 o7 o8 o9 o10 o12 : Option D) {S : Store} (a : Asc 352 t) :
    (sSeq kBent1 kBent2) [s, c, b, p, k, g, o6, o7, o8, o9, o10, some (.str t), o12] S = .nx [s, c, b, p, k, g, o6, o7, o8, o9, o10, some (.str t), some (.lst ((bents t).map .str))] S := by
  have hl := a.len
  have l1 : (Str.ofString " ").length = 1 := by decide +kernel
  have l2 : (Str.ofString "  ").length = 2 := by decide +kernel
  have l3 : (Str.ofString "\n").length = 1 := by decide +kernel
  have l4 : (Str.ofString " \n").length = 2 := by decide +kernel
  have l5 : (Str.ofString "1 ").length = 2 := by decide +kernel
  have r2 := replF_ok (x := t) (y := Str.ofString " ") (z := Str.ofString "  ") S (by rw [l2]; omega)
  have r3 := replF_ok (x := t) (y := Str.ofString " ") (z := Str.ofString "\n") S (by rw [l3]; omega)
  have r4 := replF_ok (x := t) (y := Str.ofString " ") (z := Str.ofString " \n") S (by rw [l4]; omega)
  have r5 := mulSF_ok (z := Str.ofString "1 ") (n := 1000) S (by rw [l5]; omega)
  refine seq_eq (set_eq (app_eq (cons_eq (op2_eq con_eq (var_eq rfl) (addF_str (by rw [l1]; omega))) (cons_eq (op2_eq (var_eq rfl) con_eq (addF_str (by rw [l1]; omega))) (cons_eq (op1_eq (var_eq rfl) r2) (cons_eq (op2_eq (var_eq rfl) con_eq (addF_str (by rw [l3]; omega))) (cons_eq (op1_eq (var_eq rfl) r3) (cons_eq con_eq nil_eq)))))) (newL_f (by simp) _))) ?_
  exact set_eq (op2_eq (var_eq rfl) (app_eq (cons_eq (op2_eq con_eq (var_eq rfl) (addF_str (by rw [l3]; omega))) (cons_eq (op1_eq (var_eq rfl) r4) (cons_eq (op2_eq con_eq con_eq r5) nil_eq))) (newL_f (by simp) _)) (addF_lst lst_lst lst_lst (newL_f (by simp) _)))
end K63

set_option maxHeartbeats 400000
namespace K63
open PySem PySem.Spec PyProof.Rows L2 MD
theorem seq_assoc {a b c : SM} {ρ ρ1 : MD.Env} {S S1 : Store} {r : SR} (h : sSeq a b ρ S = .nx ρ1 S1) (k : c ρ1 S1 = r) : sSeq a (sSeq b c) ρ S = r := by
  unfold sSeq at h ⊢
  cases q : a ρ S with
  | nx ρ2 S2 => simp only [q] at h ⊢; rw [h]; exact k
  | rt d S2 => simp only [q] at h; cases h
  | bk ρ2 S2 => simp only [q] at h; cases h
  | ct ρ2 S2 => simp only [q] at h; cases h
  | exc x ρ2 S2 => simp only [q] at h; cases h
  | bad => simp only [q] at h; cases h
theorem right1_step {x y : Nat} {t : Str} (hx : 1 ≤ x ∧ x ≤ 3) (hy : 1 ≤ y ∧ y ≤ 3) (s c k g o6 o7 o8 o9 o10 : Option D) {S0 S : Store} {n B : Nat} (h : Asc 352 t) (a : At S0 n (B + 1) S) :
    ∃ S', kRight1 [s, c, some (.loc n), some (.tup [.int x, .int y]), k, g, o6, o7, o8, o9, o10, some (.str t), some (.lst ((bents t).map .str))] S = .nx [s, c, some (.loc n), some (.tup [.int x, .int y]), k, g, o6, o7, o8, o9, o10, some (.str t), some (.lst ((bents t).map .str))] S' ∧ At S0 n B S' := by
  obtain ⟨T1, e1⟩ := right_ok x y t S hx hy (asc_tx h (by decide))
  obtain ⟨d, S1, e2, l, a1⟩ := (a.app T1).draw 9 (by omega) (by omega)
  replace e2 : G__law_draw [.loc n, .int 9] (S ++ T1) = .ok (.int d) S1 := e2
  obtain ⟨w0, hw, mw⟩ := atI_some (xs := (bents t).map .str) (d := d) (by simpa [bents] using l)
  obtain ⟨w, mw2, rfl⟩ := List.mem_map.mp mw
  obtain ⟨T2, e3⟩ := right_ok x y w S1 hx hy (asc_tx (bents_asc h w mw2) (by decide))
  refine ⟨S1 ++ T2, ?_, a1.app T2⟩
  exact sif_f (or_f (not_eq (bval_eq (call_eq (cons_eq (var_eq rfl) (cons_eq (var_eq rfl) nil_eq)) e1))) rfl
    (not_eq (bval_eq (call_eq (cons_eq (var_eq rfl) (cons_eq (op2_eq (var_eq rfl) (call_eq (cons_eq (var_eq rfl) (cons_eq con_eq nil_eq)) e2) (ixF_eq (seq_lst lst_lst) hw)) nil_eq)) e3)))) rfl nx_eq
theorem right2_step {x y : Nat} {t : Str} (hx : 1 ≤ x ∧ x ≤ 3) (hy : 1 ≤ y ∧ y ≤ 3) (s c b k g o6 o7 o8 o9 o10 o12 : Option D) {S0 S : Store} {n B : Nat} (h : Asc 352 t) (a : At S0 n B S) :
    ∃ S', kRight2 [s, c, b, some (.tup [.int x, .int y]), k, g, o6, o7, o8, o9, o10, some (.str t), o12] S = .nx [s, c, b, some (.tup [.int x, .int y]), k, g, o6, o7, o8, o9, o10, some (.str t), o12] S' ∧ At S0 n B S' := by
  obtain ⟨T1, e1⟩ := right_ok 1 1 t S (by decide) (by decide) (asc_tx h (by decide))
  replace e1 : G__law_right [.tup [.int 1, .int 1], .str t] S = .ok (.bl true) (S ++ T1) := e1
  obtain ⟨T2, e2⟩ := right_ok x y t (S ++ T1) hx hy (asc_tx h (by decide))
  refine ⟨S ++ T1 ++ T2, ?_, (a.app T1).app T2⟩
  exact sif_f (or_f (not_eq (bval_eq (call_eq (cons_eq (app_eq (cons_eq con_eq (cons_eq con_eq nil_eq)) (newTup_eq (by simp) _)) (cons_eq (var_eq rfl) nil_eq)) e1))) rfl
    (not_eq (bval_eq (call_eq (cons_eq (var_eq rfl) (cons_eq (var_eq rfl) nil_eq)) e2)))) rfl nx_eq
theorem kbody_ok {x y : Nat} (hx : 1 ≤ x ∧ x ≤ 3) (hy : 1 ≤ y ∧ y ≤ 3) (s c k o5 o6 o7 o8 o9 o10 o11 o12 : Option D) {S0 S : Store} {n B : Nat} (a : At S0 n (B + 20) S) :
    ∃ (o5' o6' o7' o8' o9' o10' o11' o12' : Option D) (S' : Store), kBody [s, c, some (.loc n), some (.tup [.int x, .int y]), k, o5, o6, o7, o8, o9, o10, o11, o12] S = .nx [s, c, some (.loc n), some (.tup [.int x, .int y]), k, o5', o6', o7', o8', o9', o10', o11', o12'] S' ∧ At S0 n B S' := by
  obtain ⟨g, S1, e1, g1, g2, a1⟩ := great_ok s c (some (.tup [.int x, .int y])) k o5 o6 o7 o8 o9 o10 o11 o12 (B := B + 19) a
  obtain ⟨xs, ys, S2, po, a2, e2⟩ := rows_ok s c k o6 o7 o8 o9 o10 o11 o12 (B := B + 13) g x y g1 g2 hx hy a1
  have s2 : kRows [s, c, some (.loc n), some (.tup [.int x, .int y]), k, some (.int g), o6, o7, o8, o9, o10, o11, o12] S1 = .nx [s, c, some (.loc n), some (.tup [.int x, .int y]), k, some (.int g), o6, o7, some (.lst [.lst (xs.map .int), .lst (ys.map .int)]), o9, o10, o11, o12] S2 :=
    set_eq (lc_eq (itm_eq (var_eq rfl) seq_tup) e2 finL_f)
  obtain ⟨S3, e3, a3⟩ := back_step s c k (some (.int g)) o6 o7 o9 o10 o11 o12 (some (.loc n)) po a2
  have e4 := words_step s c (some (.loc n)) (some (.tup [.int x, .int y])) k (some (.int g)) o6 o7 o9 o10 o11 o12 (S := S3) po.small
  have wl : Wl 41 ((txts (xs ++ ys)).map .str) := ⟨fun z hz => by
    obtain ⟨w, hw, rfl⟩ := List.mem_map.mp hz
    obtain ⟨v, hv, rfl⟩ := List.mem_map.mp hw
    exact ⟨_, rfl, asc_txt (po.abs v hv)⟩⟩
  have wn : ((txts (xs ++ ys)).map D.str).length ≤ 6 := by
    have := po.small.len
    simpa [txts] using this
  obtain ⟨ws, o6', S5, e5, w5, n5, a5⟩ := change_ok s c (some (.tup [.int x, .int y])) k (some (.int g)) o6 o7 (some (.lst [.lst (xs.map .int), .lst (ys.map .int)])) o9 o11 o12 (B := B + 2) wl wn a3
  obtain ⟨zs, rfl, hz⟩ := w5.strs
  rw [List.length_map] at n5
  have e6 := told_step s c (some (.loc n)) (some (.tup [.int x, .int y])) k (some (.int g)) o6' o7 (some (.lst [.lst (xs.map .int), .lst (ys.map .int)])) o9 o11 o12 (S := S5) hz n5
  have ta : Asc 352 (Txt.join " " zs) := (join_asc hz n5).more (by decide)
  have e7 := bent_step s c (some (.loc n)) (some (.tup [.int x, .int y])) k (some (.int g)) o6' o7 (some (.lst [.lst (xs.map .int), .lst (ys.map .int)])) o9 (some (.lst (zs.map .str))) o12 (S := S5) ta
  obtain ⟨S8, e8, a8⟩ := right1_step hx hy s c k (some (.int g)) o6' o7 (some (.lst [.lst (xs.map .int), .lst (ys.map .int)])) o9 (some (.lst (zs.map .str))) (B := B + 1) ta a5
  obtain ⟨S9, e9, a9⟩ := right2_step hx hy s c (some (.loc n)) k (some (.int g)) o6' o7 (some (.lst [.lst (xs.map .int), .lst (ys.map .int)])) o9 (some (.lst (zs.map .str))) (some (.lst ((bents (Txt.join " " zs)).map .str))) ta (a8.less (Nat.le_succ B))
  exact ⟨_, _, _, _, _, _, _, _, S9, seq_eq e1 (seq_eq s2 (seq_eq e3 (seq_eq e4 (seq_eq e5 (seq_eq e6 (seq_assoc e7 (seq_eq e8 e9))))))), a9⟩
theorem cell_ok (s : Option D) (cell : Int) (o2 o3 o4 o5 o6 o7 o8 o9 o10 o11 o12 : Option D) (S : Store) :
    ∃ (o2' o3' o4' o5' o6' o7' o8' o9' o10' o11' o12' : Option D) (S' : Store), (sSeq cBag (sSeq cPlane kLoop)) [s, some (.int cell), o2, o3, o4, o5, o6, o7, o8, o9, o10, o11, o12] S = .nx [s, some (.int cell), o2', o3', o4', o5', o6', o7', o8', o9', o10', o11', o12'] S' := by
  obtain ⟨S1, e1, b1, _⟩ := bag_new cell S 200 (by decide)
  rw [← bag_is] at e1
  obtain ⟨p, q, S2, e2, hp, hq, b2, k2, z2⟩ := plane_ok (B := 100) (b1.less (by decide))
  rw [← plane_is] at e2
  have r1 := rng1_run 4 (by decide) S2
  have key := forL_inv (ck := fun _ => true) (g := gN 4) (body := kBody)
    (fun j ρ S' => ∃ (o4 o5 o6 o7 o8 o9 o10 o11 o12 : Option D), ρ = [s, some (.int cell), some (.loc S.length), some (.tup [.int p, .int q]), o4, o5, o6, o7, o8, o9, o10, o11, o12] ∧ At S2 S.length (20 * j) S') (fun _ _ _ _ => rfl)
    (rngD 0 4) [s, some (.int cell), some (.loc S.length), some (.tup [.int p, .int q]), o4, o5, o6, o7, o8, o9, o10, o11, o12] S2 (fun x hx j ρ S' hI => by
      obtain ⟨o4, o5, o6, o7, o8, o9, o10, o11, o12, rfl, w⟩ := hI
      obtain ⟨p5, p6, p7, p8, p9, p10, p11, p12, S3, e3, w3⟩ := kbody_ok hp hq s (some (.int cell)) (some x) o5 o6 o7 o8 o9 o10 o11 o12 (B := 20 * j) (w.less (by omega))
      exact ⟨_, _, S3, rfl, e3, some x, p5, p6, p7, p8, p9, p10, p11, p12, rfl, w3⟩)
    (by rw [rngD_len]; exact ⟨o4, o5, o6, o7, o8, o9, o10, o11, o12, rfl, b2.less (by decide), Kp.refl _ _⟩)
  obtain ⟨ρ', S', e4, p4, p5, p6, p7, p8, p9, p10, p11, p12, rfl, _⟩ := key
  exact ⟨_, _, p4, p5, p6, p7, p8, p9, p10, p11, p12, S', seq_eq (set_eq (call_eq (cons_eq (var_eq rfl) nil_eq) e1)) (seq_eq (set_eq (call_eq (cons_eq (var_eq rfl) nil_eq) e2)) (sfor_eq (ita_eq (cons_eq con_eq nil_eq) r1) e4))⟩
theorem law_ok (ns : List Int) (hn : ns.length ≤ 63) : ∃ S', G_law [.lst (ns.map D.int)] [] = .ok (.bl true) S' := by
  have hl : (ns.map D.int).length ≤ 1000000 := by rw [List.length_map]; omega
  have sl := slF_to (zs := ns.map .int) (i := 12) 12 rfl hl []
  have key := forL_inv (ck := ckOf (.lst ([D.int 0] ++ (ns.map D.int).take 12)) ([D.int 0] ++ (ns.map D.int).take 12)) (g := gN 1) (body := sSeq cBag (sSeq cPlane kLoop))
    (fun j ρ S' => ∃ (o1 o2 o3 o4 o5 o6 o7 o8 o9 o10 o11 o12 : Option D), ρ = [some (.lst (ns.map .int)), o1, o2, o3, o4, o5, o6, o7, o8, o9, o10, o11, o12]) (fun _ _ _ _ => rfl)
    ([D.int 0] ++ (ns.map D.int).take 12) [some (.lst (ns.map .int)), none, none, none, none, none, none, none, none, none, none, none, none] [] (fun x hx j ρ S' hI => by
      obtain ⟨o1, o2, o3, o4, o5, o6, o7, o8, o9, o10, o11, o12, rfl⟩ := hI
      have hv : ∃ v : Int, x = .int v := by
        rcases List.mem_append.mp hx with h | h
        · exact ⟨0, List.mem_singleton.mp h⟩
        · obtain ⟨v, _, rfl⟩ := List.mem_map.mp (List.mem_of_mem_take h)
          exact ⟨v, rfl⟩
      obtain ⟨v, rfl⟩ := hv
      obtain ⟨p2, p3, p4, p5, p6, p7, p8, p9, p10, p11, p12, S3, e3⟩ := cell_ok (some (.lst (ns.map .int))) v o2 o3 o4 o5 o6 o7 o8 o9 o10 o11 o12 S'
      exact ⟨_, _, S3, rfl, e3, _, p2, p3, p4, p5, p6, p7, p8, p9, p10, p11, p12, rfl⟩)
    ⟨none, none, none, none, none, none, none, none, none, none, none, none, rfl⟩
  obtain ⟨ρ', S', e4, _⟩ := key
  refine ⟨S', ?_⟩
  have hd : G_law [.lst (ns.map D.int)] [] = endB (m_law [some (.lst (ns.map D.int)), none, none, none, none, none, none, none, none, none, none, none, none] []) := by rw [G_law]; exact run_eq _ _ _ _
  rw [hd, m_law_is]
  exact end_rt (seq_eq (sfor_eq (itm_eq (op2_eq (app_eq (cons_eq con_eq nil_eq) (newL_f (by simp) _)) (sl_eq (var_eq rfl) onone_eq (osome_eq con_eq) sl) (addF_lst lst_lst lst_lst (newL_f (by rw [List.length_append, List.length_take, List.length_map]; simp; omega) _))) (seq_lst lst_lst)) e4) (ret_eq con_eq))
end K63

theorem PySem.Challenge.cw_unknowncorners_k63_settings_written_and_holds : PySem.Challenge.rw_unknowncorners_k63_settings_written_and.Holds :=
  K63.holds fun ns hn _ => K63.law_ok ns hn
