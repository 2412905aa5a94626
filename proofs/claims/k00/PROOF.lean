import PyProof.Rows.All
import Wide.All
import OpenK.AllK
import Wide.FinOn
import HandS.ForMost
import HandS.Walk
import HandS.ExcInit
import HandS.IsInst
import HandS.Style
import HandS.TupAny
import HandS.Conv
import HandS.Flow
import HandS.Zip
import KE.GoesEnum
import KE.GoesMore
import KE.GoesZip
import PyProof.ListStr
import PyProof.StrOps2
import KE.KExcSuper
import KE.KExcIs
import PyProof.ExcBaseAll.LookupError
import PyProof.ExcBaseAll.IndexError
import PyProof.ExcBaseAll.OverflowError
import PyProof.ExcBaseAll.ArithmeticError
import PyProof.ExcBaseAll.RuntimeError
import PyProof.ExcBaseAll.ValueError
import HandS.ExcIs
import HandS.ExcField
import HandS.Defaults
import HandS.HeadHook2
import HandS.HeadEnd
import HandS.Text
import HandS.Codes
import HandS.Wide
import HandS.Head0
import HandS.Head1
import HandS.Head2
import HandS.HeadHook1
import PySem.Challenge.RW_watchkinds_k00_errors_and_what_they_keep
set_option Elab.async false
set_option linter.all false
set_option maxRecDepth 100000
set_option maxHeartbeats 2000000
/-! THE DATA LAYER, part 1: data, what shows them, the state of a def by data -/
namespace DL
open PySem PySem.Spec PyProof.Rows L2

/-- a key of a dict -/
inductive DK where
  | int (i : Int)
  | str (x : List Nat)
  deriving DecidableEq
def mkS (x : List Nat) : Str := ⟨x.toArray⟩
def DK.key : DK → Key
  | .int i => .inl i
  | .str x => .inr (mkS x)
/-- Python's data, without a heap; a text is the list of its signs -/
inductive D where
  | non
  | bl (b : Bool)
  | int (i : Int)
  | str (x : List Nat)
  | lst (xs : List D)
  | tup (xs : List D)
  | dct (kvs : List (DK × D))
  | obj (c : Str) (fs : List (Str × D))
  | dice
  | adr (a : Addr)
  | scr (ns : List Int)
  | exc (c : Str) (fs : List (Str × D))

/-- what is fixed through the law's run of one cell: the written part, the classes' places, the dice's place -/
structure Ctx where
  K : PySem.W.Frag
  cls : Str → Option Addr
  dl : Option Addr

/-- at a: an exception value of the class at C with these fields -/
def ExAt (H : Hp) (a C : Addr) (fs : List (Str × V)) : Prop := (H a = some (exo a C none) ∧ fs = []) ∨ ∃ dx, H a = some (exo a C (some dx)) ∧ H dx = some (exd dx fs)
mutual
inductive Rep (C : Ctx) (H : Hp) : V → D → Prop
  | non : Rep C H .non .non
  | bl (b : Bool) : Rep C H (.bl b) (.bl b)
  | int (i : Int) : Rep C H (.int i) (.int i)
  | str (x : List Nat) : Rep C H (.str (mkS x)) (.str x)
  | lst {a : Addr} {xs : List V} {ds : List D} : H a = some (.lst xs) → Reps C H xs ds → Rep C H (.ref a) (.lst ds)
  | tup {a : Addr} {xs : List V} {ds : List D} : SqT C.K H a xs → Reps C H xs ds → Rep C H (.ref a) (.tup ds)
  | dct {a : Addr} {ks : List (Key × V)} {kvs : List (DK × D)} : H a = some (.dK ks) → RepKs C H ks kvs → Rep C H (.ref a) (.dct kvs)
  | obj {a A dx : Addr} {c : Str} {fs : List (Str × V)} {gs : List (Str × D)} : C.cls c = some A → H a = some (.ins A dx fs) → RepFs C H fs gs → Rep C H (.ref a) (.obj c gs)
  | dice {a : Addr} : C.dl = some a → Rep C H (.ref a) .dice
  | adr (a : Addr) : Rep C H (.ref a) (.adr a)
  | scr {a : Addr} {ns : List Int} : SqL C.K H a (ns.map V.int) → Rep C H (.ref a) (.scr ns)
  | exc {a A : Addr} {c : Str} {fs : List (Str × V)} {gs : List (Str × D)} : C.cls c = some A → ExAt H a A fs → RepFs C H fs gs → Rep C H (.ref a) (.exc c gs)
inductive Reps (C : Ctx) (H : Hp) : List V → List D → Prop
  | nil : Reps C H [] []
  | cons {v : V} {vs : List V} {d : D} {ds : List D} : Rep C H v d → Reps C H vs ds → Reps C H (v :: vs) (d :: ds)
inductive RepKs (C : Ctx) (H : Hp) : List (Key × V) → List (DK × D) → Prop
  | nil : RepKs C H [] []
  | cons {k : DK} {v : V} {vs : List (Key × V)} {d : D} {ds : List (DK × D)} : Rep C H v d → RepKs C H vs ds → RepKs C H ((k.key, v) :: vs) ((k, d) :: ds)
inductive RepFs (C : Ctx) (H : Hp) : List (Str × V) → List (Str × D) → Prop
  | nil : RepFs C H [] []
  | cons {k : Str} {v : V} {vs : List (Str × V)} {d : D} {ds : List (Str × D)} : Rep C H v d → RepFs C H vs ds → RepFs C H ((k, v) :: vs) ((k, d) :: ds)
end

/-- all that is known stays -/
abbrev Ex (H H' : Hp) : Prop := Same H H'
theorem Ex.refl (H : Hp) : Ex H H := fun _ _ e => e
theorem Ex.trans {H H1 H2 : Hp} (a : Ex H H1) (b : Ex H1 H2) : Ex H H2 := fun x o e => b x o (a x o e)
theorem Ex.new {H : Hp} {p : Addr} {o : HO} (h : H p = none) : Ex H (upd H p o) := fun b x e => by
  rw [upd_ne (ne_of_none e h)]
  exact e
theorem ex_rd {H H' : Hp} {a : Addr} {u : HO} (e : Ex H H') (h : Rd H a u) : Rd H' a u := by
  rcases h with h | ⟨o, h⟩
  · exact .inl (e _ _ h)
  · exact .inr ⟨o, e _ _ h⟩
theorem ex_l {K : PySem.W.Frag} {H H' : Hp} {a : Addr} {xs : List V} (e : Ex H H') (h : SqL K H a xs) : SqL K H' a xs := by
  rcases h with h | h
  · exact .inl (ex_rd e h)
  · exact .inr h
theorem ex_t {K : PySem.W.Frag} {H H' : Hp} {a : Addr} {xs : List V} (e : Ex H H') (h : SqT K H a xs) : SqT K H' a xs := by
  rcases h with h | h
  · exact .inl (ex_rd e h)
  · exact .inr h

theorem ExAt.mono {H H' : Hp} {a C : Addr} {fs : List (Str × V)} (e : Ex H H') (h : ExAt H a C fs) : ExAt H' a C fs := by
  rcases h with ⟨h, z⟩ | ⟨dx, h1, h2⟩
  · exact .inl ⟨e _ _ h, z⟩
  · exact .inr ⟨dx, e _ _ h1, e _ _ h2⟩
section
variable {C : Ctx} {H H' : Hp}
mutual
theorem Rep.mono (e : Ex H H') : ∀ {v : V} {d : D}, Rep C H v d → Rep C H' v d
  | _, _, .non => .non
  | _, _, .bl b => .bl b
  | _, _, .int b => .int b
  | _, _, .str b => .str b
  | _, _, .lst h r => .lst (e _ _ h) (Reps.mono e r)
  | _, _, .tup h r => .tup (ex_t e h) (Reps.mono e r)
  | _, _, .dct h r => .dct (e _ _ h) (RepKs.mono e r)
  | _, _, .obj c h r => .obj c (e _ _ h) (RepFs.mono e r)
  | _, _, .dice h => .dice h
  | _, _, .adr a => .adr a
  | _, _, .scr h => .scr (ex_l e h)
  | _, _, .exc c h r => .exc c (h.mono e) (RepFs.mono e r)
theorem Reps.mono (e : Ex H H') : ∀ {v : List V} {d : List D}, Reps C H v d → Reps C H' v d
  | _, _, .nil => .nil
  | _, _, .cons h r => .cons (Rep.mono e h) (Reps.mono e r)
theorem RepKs.mono (e : Ex H H') : ∀ {v : List (Key × V)} {d : List (DK × D)}, RepKs C H v d → RepKs C H' v d
  | _, _, .nil => .nil
  | _, _, .cons h r => .cons (Rep.mono e h) (RepKs.mono e r)
theorem RepFs.mono (e : Ex H H') : ∀ {v : List (Str × V)} {d : List (Str × D)}, RepFs C H v d → RepFs C H' v d
  | _, _, .nil => .nil
  | _, _, .cons h r => .cons (Rep.mono e h) (RepFs.mono e r)
end
theorem Reps.length : ∀ {v : List V} {d : List D}, Reps C H v d → v.length = d.length
  | _, _, .nil => rfl
  | _, _, .cons _ r => by
    rw [List.length_cons, List.length_cons, Reps.length r]
theorem Reps.get : ∀ {v : List V} {d : List D} {i : Nat} {x : D}, Reps C H v d → d[i]? = some x → ∃ y, v[i]? = some y ∧ Rep C H y x
  | _, _, _, _, .nil, e => by simp at e
  | _, _, 0, _, .cons r _, e => by
    simp at e
    subst e
    exact ⟨_, rfl, r⟩
  | _, _, i + 1, x, .cons _ t, e => by
    obtain ⟨u, h1, h2⟩ := Reps.get (i := i) (x := x) t (by simpa using e)
    exact ⟨u, by simpa using h1, h2⟩
theorem Reps.get' : ∀ {v : List V} {d : List D} {i : Nat} {y : V}, Reps C H v d → v[i]? = some y → ∃ x, d[i]? = some x ∧ Rep C H y x
  | _, _, _, _, .nil, e => by simp at e
  | _, _, 0, _, .cons r _, e => by
    simp at e
    subst e
    exact ⟨_, rfl, r⟩
  | _, _, i + 1, x, .cons _ t, e => by
    obtain ⟨u, h1, h2⟩ := Reps.get' (i := i) (y := x) t (by simpa using e)
    exact ⟨u, by simpa using h1, h2⟩
theorem Reps.append : ∀ {v : List V} {d : List D} {v' : List V} {d' : List D}, Reps C H v d → Reps C H v' d' → Reps C H (v ++ v') (d ++ d')
  | _, _, _, _, .nil, s => s
  | _, _, _, _, .cons r t, s => .cons r (Reps.append t s)
theorem Reps.one {v : V} {d : D} (h : Rep C H v d) : Reps C H [v] [d] := .cons h .nil
theorem Reps.take : ∀ {v : List V} {d : List D} (n : Nat), Reps C H v d → Reps C H (v.take n) (d.take n)
  | _, _, 0, _ => .nil
  | _, _, _ + 1, .nil => .nil
  | _, _, n + 1, .cons r t => .cons r (Reps.take n t)
theorem Reps.drop : ∀ {v : List V} {d : List D} (n : Nat), Reps C H v d → Reps C H (v.drop n) (d.drop n)
  | _, _, 0, r => r
  | _, _, _ + 1, .nil => .nil
  | _, _, n + 1, .cons _ t => Reps.drop n t
theorem Reps.eraseIdx : ∀ {v : List V} {d : List D} (i : Nat), Reps C H v d → Reps C H (v.eraseIdx i) (d.eraseIdx i)
  | _, _, _, .nil => .nil
  | _, _, 0, .cons _ t => t
  | _, _, i + 1, .cons r t => .cons r (Reps.eraseIdx i t)
theorem Reps.set {x : V} {y : D} (h : Rep C H x y) : ∀ {v : List V} {d : List D} (i : Nat), Reps C H v d → Reps C H (v.set i x) (d.set i y)
  | _, _, _, .nil => .nil
  | _, _, 0, .cons _ t => .cons h t
  | _, _, i + 1, .cons r t => .cons r (Reps.set h i t)
theorem Reps.reverse : ∀ {v : List V} {d : List D}, Reps C H v d → Reps C H v.reverse d.reverse
  | _, _, .nil => .nil
  | _, _, .cons r t => by
    rw [List.reverse_cons, List.reverse_cons]
    exact Reps.append (Reps.reverse t) (.one r)
theorem Reps.dropLast {v : List V} {d : List D} (r : Reps C H v d) : Reps C H v.dropLast d.dropLast := by
  rw [List.dropLast_eq_take, List.dropLast_eq_take, r.length]
  exact Reps.take _ r
end

/-! ### the dice, the state of a def -/
structure G where
  l : Int
  m : Int
  c : Int
def diceL (g : G) : List V := [.int g.l, .int g.m, .int g.c]
def DiceAt (dl : Option Addr) (g : G) (Hs H : Hp) : Prop := ∀ a, dl = some a → Hs a = none ∧ H a = some (.lst (diceL g))

/-- a slot: a datum that nobody changes, or an object of this def's own with its content -/
inductive SV where
  | d (x : D)
  | own (x : D)
structure DS where
  ρ : List (Option SV)
  g : G
/-- fixed through a def's body: Hf the heap at the entry (and what must not be changed besides), H0 what was known as lasting there -/
structure Fx where
  C : Ctx
  Hf : Hp
  H0 : Hp

def OwnAt (C : Ctx) (Hs H : Hp) (p : Addr) : D → Prop
  | .lst ds => ∃ xs, H p = some (.lst xs) ∧ Reps C Hs xs ds
  | .dct kvs => ∃ ks, H p = some (.dK ks) ∧ RepKs C Hs ks kvs
  | .obj c gs => ∃ A dx fs, C.cls c = some A ∧ H p = some (.ins A dx fs) ∧ RepFs C Hs fs gs
  | _ => False
theorem OwnAt.mono {C : Ctx} {Hs Hs' H H' : Hp} {p : Addr} (e : Ex Hs Hs') (k : H' p = H p) : ∀ {x : D}, OwnAt C Hs H p x → OwnAt C Hs' H' p x
  | .lst _, ⟨xs, h, r⟩ => ⟨xs, k.trans h, r.mono e⟩
  | .dct _, ⟨xs, h, r⟩ => ⟨xs, k.trans h, r.mono e⟩
  | .obj _ _, ⟨A, dx, fs, c, h, r⟩ => ⟨A, dx, fs, c, k.trans h, r.mono e⟩
theorem OwnAt.there {C : Ctx} {Hs H : Hp} {p : Addr} : ∀ {x : D}, OwnAt C Hs H p x → ∃ o, H p = some o
  | .lst _, ⟨xs, h, r⟩ => ⟨_, h⟩
  | .dct _, ⟨xs, h, r⟩ => ⟨_, h⟩
  | .obj _ _, ⟨A, dx, fs, c, h, r⟩ => ⟨_, h⟩
/-- an own object becomes a lasting one -/
theorem OwnAt.frozen {C : Ctx} {Hs H : Hp} {p : Addr} {o : HO} (n : Hs p = none) (e : H p = some o) : ∀ {x : D}, OwnAt C Hs H p x → Rep C (upd Hs p o) (.ref p) x
  | .lst _, ⟨xs, h, r⟩ => by
    have q : o = .lst xs := Option.some.inj (e.symm.trans h)
    subst q
    exact .lst upd_same (r.mono (Ex.new n))
  | .dct _, ⟨xs, h, r⟩ => by
    have q : o = .dK xs := Option.some.inj (e.symm.trans h)
    subst q
    exact .dct upd_same (r.mono (Ex.new n))
  | .obj _ _, ⟨A, dx, fs, c, h, r⟩ => by
    have q : o = .ins A dx fs := Option.some.inj (e.symm.trans h)
    subst q
    exact .obj c upd_same (r.mono (Ex.new n))

structure Rs (Φ : Fx) (Hs : Hp) (s : DS) (σ : L2.St) (H : Hp) : Prop where
  ex0 : Ex Φ.H0 Hs
  ex : Ex Hs H
  fr : ∀ a o, some a ≠ Φ.C.dl → Φ.Hf a = some o → H a = some o
  fs : ∀ a o, Φ.Hf a = some o → Hs a = Φ.H0 a
  dice : DiceAt Φ.C.dl s.g Hs H
  len : s.ρ.length = σ.length
  slot : ∀ (i : Nat) (x : D), s.ρ[i]? = some (some (.d x)) → ∃ v, σ[i]? = some (some v) ∧ Rep Φ.C Hs v x
  own : ∀ (i : Nat) (x : D), s.ρ[i]? = some (some (.own x)) → ∃ p, σ[i]? = some (some (.ref p)) ∧ Hs p = none ∧ Φ.Hf p = none ∧ some p ≠ Φ.C.dl ∧ OwnAt Φ.C Hs H p x
  inj : ∀ (i j : Nat) (x y : D) (p : Addr), s.ρ[i]? = some (some (.own x)) → s.ρ[j]? = some (some (.own y)) → σ[i]? = some (some (.ref p)) → σ[j]? = some (some (.ref p)) → i = j

/-- an expression's outcome: a lasting datum, the object of slot i, a new object -/
inductive BV where
  | st (d : D)
  | ow (i : Nat)
  | fr (x : D)
structure FreshAt (Φ : Fx) (Hs : Hp) (s : DS) (σ : L2.St) (H : Hp) (p : Addr) (x : D) : Prop where
  hs : Hs p = none
  hf : Φ.Hf p = none
  dl : some p ≠ Φ.C.dl
  sep : ∀ (i : Nat) (y : D), s.ρ[i]? = some (some (.own y)) → σ[i]? ≠ some (some (.ref p))
  at_ : OwnAt Φ.C Hs H p x
def RB (Φ : Fx) (Hs : Hp) (s : DS) (σ : L2.St) (H : Hp) (v : V) : BV → Prop
  | .st d => Rep Φ.C Hs v d
  | .ow i => σ[i]? = some (some v) ∧ ∃ x, s.ρ[i]? = some (some (.own x))
  | .fr x => ∃ p, v = .ref p ∧ FreshAt Φ Hs s σ H p x
end DL


set_option Elab.async false
set_option linter.all false
set_option maxRecDepth 100000
set_option maxHeartbeats 2000000
/-! THE DATA LAYER, part 2: readings by data -/
namespace DL
open PySem PySem.Spec PyProof.Rows L2

theorem PE.imp {X : Cx} {e : Expr} {t t' : TE} (h : PE X e t) (i : ∀ σ H Q, t' σ H Q → t σ H Q) : PE X e t' := ⟨fun pins s σ H Q I q => h.run pins s σ H Q I (i σ H Q q)⟩
theorem PT.imp {X : Cx} {e : Expr} {t t' : TT} (h : PT X e t) (i : ∀ σ H Q, t' σ H Q → t σ H Q) : PT X e t' := ⟨fun pins s σ H Q I q => h.run pins s σ H Q I (i σ H Q q)⟩
theorem PW.imp {X : Cx} {e : Expr} {t t' : TT} (h : PW X e t) (i : ∀ σ H Q, t' σ H Q → t σ H Q) : PW X e t' := ⟨fun w pins s σ H Q I q => h.run w pins s σ H Q I (i σ H Q q)⟩
theorem PA.imp {X : Cx} {es : List Expr} {t t' : TA} (h : PA X es t) (i : ∀ σ H Q, t' σ H Q → t σ H Q) : PA X es t' := ⟨fun p pins s σ H Q I q => h.run p pins s σ H Q I (i σ H Q q)⟩
theorem PS.imp {X : Cx} {st : Stmt} {t t' : TS} (h : PS X st t) (i : ∀ D σ H, t' D σ H → t D σ H) : PS X st t' := ⟨fun pins s σ H D I q => h.run pins s σ H D I (i D σ H q)⟩
theorem PSs.imp {X : Cx} {st : List Stmt} {t t' : TS} (h : PSs X st t) (i : ∀ D σ H, t' D σ H → t D σ H) : PSs X st t' := ⟨fun pins s σ H D I q => h.run pins s σ H D I (i D σ H q)⟩
theorem PG.imp {X : Cx} {e : Expr} {t t' : TG} (h : PG X e t) (i : ∀ v σ H Q, t' v σ H Q → t v σ H Q) : PG X e t' := ⟨fun pins s σ H v u Q I r q => h.run pins s σ H v u Q I r (i v σ H Q q)⟩
theorem PGs.imp {X : Cx} {e : List Expr} {t t' : TGs} (h : PGs X e t) (i : ∀ v σ H Q, t' v σ H Q → t v σ H Q) : PGs X e t' := ⟨fun pins s σ H v u Q I r q => h.run pins s σ H v u Q I r (i v σ H Q q)⟩
theorem PI.imp {X : Cx} {tg e : Expr} {t t' : TI} (h : PI X tg e t) (i : ∀ σ H Q, t' σ H Q → t σ H Q) : PI X tg e t' := ⟨fun pins s σ H Q I q => h.run pins s σ H Q I (i σ H Q q)⟩
theorem PTs.imp {X : Cx} {e : List Expr} {t t' : TT} (h : PTs X e t) (i : ∀ σ H Q, t' σ H Q → t σ H Q) : PTs X e t' := ⟨fun pins s σ H Q I q => h.run pins s σ H Q I (i σ H Q q)⟩

/-- a whole of outcomes -/
abbrev FE := DS → Option (BV × DS)
abbrev FT := DS → Option (Bool × DS)
abbrev FA := DS → Option (List BV × DS)
abbrev FI := DS → Option (List D × DS)
abbrev FG := D → DS → Option DS
inductive Out where
  | nx
  | brk
  | cnt
  | ret (b : BV)
abbrev FS := DS → Option (Out × DS)

/-! ### the state's lemmas -/
section
variable {Φ : Fx} {Hs Hs' H H' : Hp} {s s' : DS} {σ : L2.St} {p : Addr} {o : HO} {x d : D} {v : V} {b : BV}
theorem Rs.free (r : Rs Φ Hs s σ H) (h : H p = none) : Hs p = none ∧ Φ.Hf p = none ∧ some p ≠ Φ.C.dl := by
  have h1 : some p ≠ Φ.C.dl := fun e => by
    have z := (r.dice p e.symm).2
    rw [h] at z
    cases z
  refine ⟨?_, ?_, h1⟩
  · cases e : Hs p with
    | none => rfl
    | some o =>
      have z := r.ex _ _ e
      rw [h] at z
      cases z
  · cases e : Φ.Hf p with
    | none => rfl
    | some o =>
      have z := r.fr _ _ h1 e
      rw [h] at z
      cases z
/-- a new object is laid -/
theorem Rs.laid (r : Rs Φ Hs s σ H) (h : H p = none) (o : HO) : Rs Φ Hs s σ (upd H p o) where
  ex0 := r.ex0
  ex := r.ex.trans (Ex.new h)
  fr := fun a o' h1 e => Ex.new h _ _ (r.fr a o' h1 e)
  fs := r.fs
  dice := fun a e => ⟨(r.dice a e).1, Ex.new h _ _ (r.dice a e).2⟩
  len := r.len
  slot := r.slot
  own := fun i x e => by
    obtain ⟨q, h1, h2, h3, h4, h5⟩ := r.own i x e
    refine ⟨q, h1, h2, h3, h4, h5.mono (Ex.refl _) ?_⟩
    obtain ⟨o', e'⟩ := h5.there
    exact upd_ne (ne_of_none e' h)
  inj := r.inj
/-- a new object is laid as a lasting one -/
theorem Rs.laidS (r : Rs Φ Hs s σ H) (h : H p = none) (o : HO) : Rs Φ (upd Hs p o) s σ (upd H p o) := by
  obtain ⟨h1, h2, h3⟩ := r.free h
  exact
  { ex0 := r.ex0.trans (Ex.new h1)
    ex := fun a o' e => by
      by_cases q : a = p
      · subst q
        rw [upd_same] at e ⊢
        exact e
      · rw [upd_ne q] at e ⊢
        exact r.ex _ _ e
    fr := fun a o' h1 e => Ex.new h _ _ (r.fr a o' h1 e)
    fs := fun a o' e => by
      have q : a ≠ p := fun q => by
        rw [q, h2] at e
        cases e
      rw [upd_ne q]
      exact r.fs a o' e
    dice := fun a e => by
      have q : a ≠ p := fun q => h3 (by rw [← q]; exact e.symm)
      rw [upd_ne q, upd_ne q]
      exact r.dice a e
    len := r.len
    slot := fun i x e => by
      obtain ⟨v, e1, e2⟩ := r.slot i x e
      exact ⟨v, e1, e2.mono (Ex.new h1)⟩
    own := fun i x e => by
      obtain ⟨q, e1, e2, e3, e4, e5⟩ := r.own i x e
      obtain ⟨o', e'⟩ := e5.there
      have qp : q ≠ p := ne_of_none e' h
      exact ⟨q, e1, (upd_ne qp).trans e2, e3, e4, e5.mono (Ex.new h1) (upd_ne qp)⟩
    inj := r.inj }
theorem Rs.newAt (r : Rs Φ Hs s σ H) (h : H p = none) (a : OwnAt Φ.C Hs (upd H p o) p x) : FreshAt Φ Hs s σ (upd H p o) p x := by
  obtain ⟨h1, h2, h3⟩ := r.free h
  refine ⟨h1, h2, h3, fun i y e q => ?_, a⟩
  obtain ⟨q', e1, e2, e3, e4, e5⟩ := r.own i y e
  have z : q' = p := by
    have := e1.symm.trans q
    injection this with this
    injection this with this
    injection this
  subst z
  obtain ⟨o', e'⟩ := e5.there
  rw [h] at e'
  cases e'
/-- a fresh object becomes a lasting one -/
theorem Rs.freeze (r : Rs Φ Hs s σ H) (f : FreshAt Φ Hs s σ H p x) : ∃ Hs', Ex Hs Hs' ∧ Rs Φ Hs' s σ H ∧ Rep Φ.C Hs' (.ref p) x := by
  obtain ⟨o, e⟩ := f.at_.there
  refine ⟨upd Hs p o, Ex.new f.hs, ?_, f.at_.frozen f.hs e⟩
  exact
  { ex0 := r.ex0.trans (Ex.new f.hs)
    ex := fun a o' e' => by
      by_cases q : a = p
      · subst q
        rw [upd_same] at e'
        rw [← e']
        exact e
      · rw [upd_ne q] at e'
        exact r.ex _ _ e'
    fr := r.fr
    fs := fun a o' e' => by
      have q : a ≠ p := fun q => by
        rw [q, f.hf] at e'
        cases e'
      rw [upd_ne q]
      exact r.fs a o' e'
    dice := fun a e' => by
      have q : a ≠ p := fun q => f.dl (by rw [← q]; exact e'.symm)
      rw [upd_ne q]
      exact r.dice a e'
    len := r.len
    slot := fun i y e' => by
      obtain ⟨v, e1, e2⟩ := r.slot i y e'
      exact ⟨v, e1, e2.mono (Ex.new f.hs)⟩
    own := fun i y e' => by
      obtain ⟨q, e1, e2, e3, e4, e5⟩ := r.own i y e'
      have qp : q ≠ p := fun z => f.sep i y e' (by rw [← z]; exact e1)
      exact ⟨q, e1, (upd_ne qp).trans e2, e3, e4, e5.mono (Ex.new f.hs) rfl⟩
    inj := r.inj }
/-- the slot i's own object becomes a lasting one -/
theorem Rs.freezeOwn {i : Nat} (r : Rs Φ Hs s σ H) (e : s.ρ[i]? = some (some (.own x))) :
    ∃ Hs' v, Ex Hs Hs' ∧ Rs Φ Hs' { s with ρ := s.ρ.set i (some (.d x)) } σ H ∧ σ[i]? = some (some v) ∧ Rep Φ.C Hs' v x := by
  obtain ⟨p, e1, e2, e3, e4, e5⟩ := r.own i x e
  obtain ⟨o, eo⟩ := e5.there
  have hrep := e5.frozen e2 eo
  have old : ∀ (j : Nat) (y : D), (s.ρ.set i (some (.d x)))[j]? = some (some (.own y)) → j ≠ i ∧ s.ρ[j]? = some (some (.own y)) := fun j y q => by
    by_cases z : i = j
    · subst z
      have hl : i < s.ρ.length := (List.getElem?_eq_some_iff.mp e).1
      rw [List.getElem?_set_self hl] at q
      cases q
    · rw [List.getElem?_set_ne z] at q
      exact ⟨fun w => z w.symm, q⟩
  refine ⟨upd Hs p o, .ref p, Ex.new e2, ?_, e1, hrep⟩
  exact
  { ex0 := r.ex0.trans (Ex.new e2)
    ex := fun a o' e' => by
      by_cases q : a = p
      · subst q
        rw [upd_same] at e'
        rw [← e']
        exact eo
      · rw [upd_ne q] at e'
        exact r.ex _ _ e'
    fr := r.fr
    fs := fun a o' e' => by
      have q : a ≠ p := fun q => by
        rw [q, e3] at e'
        cases e'
      rw [upd_ne q]
      exact r.fs a o' e'
    dice := fun a e' => by
      have q : a ≠ p := fun q => e4 (by rw [← q]; exact e'.symm)
      rw [upd_ne q]
      exact r.dice a e'
    len := by
      show (s.ρ.set i _).length = _
      rw [List.length_set]
      exact r.len
    slot := fun j y q => by
      by_cases z : i = j
      · subst z
        have hl : i < s.ρ.length := (List.getElem?_eq_some_iff.mp e).1
        have q' : (s.ρ.set i (some (.d x)))[i]? = some (some (.d y)) := q
        rw [List.getElem?_set_self hl] at q'
        injection q' with q'
        injection q' with q'
        injection q' with q'
        subst q'
        exact ⟨_, e1, hrep⟩
      · have q' : (s.ρ.set i (some (.d x)))[j]? = some (some (.d y)) := q
        rw [List.getElem?_set_ne z] at q'
        obtain ⟨v, w1, w2⟩ := r.slot j y q'
        exact ⟨v, w1, w2.mono (Ex.new e2)⟩
    own := fun j y q => by
      obtain ⟨nz, q'⟩ := old j y q
      obtain ⟨q1, w1, w2, w3, w4, w5⟩ := r.own j y q'
      have qp : q1 ≠ p := fun z => nz (r.inj j i y x p q' e (by rw [← z]; exact w1) e1)
      exact ⟨q1, w1, (upd_ne qp).trans w2, w3, w4, w5.mono (Ex.new e2) rfl⟩
    inj := fun j k y z q h1 h2 h3 h4 => r.inj j k y z q (old j y h1).2 (old k z h2).2 h3 h4 }
/-- a name is stored: a lasting datum -/
theorem Rs.put {i : Nat} (r : Rs Φ Hs s σ H) (h : Rep Φ.C Hs v d) : Rs Φ Hs { s with ρ := s.ρ.set i (some (.d d)) } (σ.set i (some v)) H := by
  have old : ∀ (j : Nat) (y : D), (s.ρ.set i (some (.d d)))[j]? = some (some (.own y)) → s.ρ[j]? = some (some (.own y)) ∧ (σ.set i (some v))[j]? = σ[j]? := fun j y q => by
    by_cases z : i = j
    · subst z
      by_cases hl : i < s.ρ.length
      · rw [List.getElem?_set_self hl] at q
        cases q
      · have hl2 : s.ρ.length ≤ i := by omega
        rw [List.getElem?_eq_none_iff.mpr (by rw [List.length_set]; exact hl2)] at q
        cases q
    · rw [List.getElem?_set_ne z] at q
      exact ⟨q, List.getElem?_set_ne z⟩
  exact
  { ex0 := r.ex0
    ex := r.ex
    fr := r.fr
    fs := r.fs
    dice := r.dice
    len := by
      show (s.ρ.set i _).length = _
      rw [List.length_set, List.length_set]
      exact r.len
    slot := fun j y q => by
      have q' : (s.ρ.set i (some (.d d)))[j]? = some (some (.d y)) := q
      by_cases z : i = j
      · subst z
        have hl : i < s.ρ.length := by
          have := (List.getElem?_eq_some_iff.mp q').1
          rw [List.length_set] at this
          exact this
        rw [List.getElem?_set_self hl] at q'
        injection q' with q'
        injection q' with q'
        injection q' with q'
        subst q'
        have hl2 : i < σ.length := by
          have := r.len
          omega
        exact ⟨v, List.getElem?_set_self hl2, h⟩
      · rw [List.getElem?_set_ne z] at q'
        rw [List.getElem?_set_ne z]
        exact r.slot j y q'
    own := fun j y q => by
      obtain ⟨q1, q2⟩ := old j y q
      rw [q2]
      exact r.own j y q1
    inj := fun j k y z q h1 h2 h3 h4 => by
      obtain ⟨a1, a2⟩ := old j y h1
      obtain ⟨b1, b2⟩ := old k z h2
      rw [a2] at h3
      rw [b2] at h4
      exact r.inj j k y z q a1 b1 h3 h4 }
/-- a name is stored: an own object -/
theorem Rs.putOwn {i : Nat} (r : Rs Φ Hs s σ H) (f : FreshAt Φ Hs s σ H p x) : Rs Φ Hs { s with ρ := s.ρ.set i (some (.own x)) } (σ.set i (some (.ref p))) H := by
  have old : ∀ (j : Nat) (y : D), (s.ρ.set i (some (.own x)))[j]? = some (some (.own y)) → (j = i ∧ y = x ∧ (σ.set i (some (.ref p)))[j]? = some (some (.ref p))) ∨ (j ≠ i ∧ s.ρ[j]? = some (some (.own y)) ∧ (σ.set i (some (.ref p)))[j]? = σ[j]?) := fun j y q => by
    by_cases z : i = j
    · subst z
      have hl : i < s.ρ.length := by
        have := (List.getElem?_eq_some_iff.mp q).1
        rw [List.length_set] at this
        exact this
      rw [List.getElem?_set_self hl] at q
      injection q with q
      injection q with q
      injection q with q
      have hl2 : i < σ.length := by
        have := r.len
        omega
      exact .inl ⟨rfl, q.symm, List.getElem?_set_self hl2⟩
    · rw [List.getElem?_set_ne z] at q
      exact .inr ⟨fun w => z w.symm, q, List.getElem?_set_ne z⟩
  exact
  { ex0 := r.ex0
    ex := r.ex
    fr := r.fr
    fs := r.fs
    dice := r.dice
    len := by
      show (s.ρ.set i _).length = _
      rw [List.length_set, List.length_set]
      exact r.len
    slot := fun j y q => by
      have q' : (s.ρ.set i (some (.own x)))[j]? = some (some (.d y)) := q
      by_cases z : i = j
      · subst z
        have hl : i < s.ρ.length := by
          have := (List.getElem?_eq_some_iff.mp q').1
          rw [List.length_set] at this
          exact this
        rw [List.getElem?_set_self hl] at q'
        cases q'
      · rw [List.getElem?_set_ne z] at q'
        rw [List.getElem?_set_ne z]
        exact r.slot j y q'
    own := fun j y q => by
      rcases old j y q with ⟨q0, q1, q2⟩ | ⟨q0, q1, q2⟩
      · subst q1
        exact ⟨p, q2, f.hs, f.hf, f.dl, f.at_⟩
      · rw [q2]
        exact r.own j y q1
    inj := fun j k y z q h1 h2 h3 h4 => by
      rcases old j y h1 with ⟨a0, a1, a2⟩ | ⟨a0, a1, a2⟩
      · rcases old k z h2 with ⟨b0, b1, b2⟩ | ⟨b0, b1, b2⟩
        · exact a0.trans b0.symm
        · rw [a2] at h3
          rw [b2] at h4
          injection h3 with h3
          injection h3 with h3
          rw [← h3] at h4
          exact absurd h4 (f.sep k z b1)
      · rcases old k z h2 with ⟨b0, b1, b2⟩ | ⟨b0, b1, b2⟩
        · rw [a2] at h3
          rw [b2] at h4
          injection h4 with h4
          injection h4 with h4
          rw [← h4] at h3
          exact absurd h3 (f.sep j y a1)
        · rw [a2] at h3
          rw [b2] at h4
          exact r.inj j k y z q a1 b1 h3 h4 }
/-- slot i's own object is written -/
theorem Rs.wrote {i : Nat} {y : D} (r : Rs Φ Hs s σ H) (e : s.ρ[i]? = some (some (.own x))) (hp : σ[i]? = some (some (.ref p))) (a : OwnAt Φ.C Hs (upd H p o) p y) : Rs Φ Hs { s with ρ := s.ρ.set i (some (.own y)) } σ (upd H p o) := by
  obtain ⟨p', e1, e2, e3, e4, e5⟩ := r.own i x e
  have z : p' = p := by
    have := e1.symm.trans hp
    injection this with this
    injection this with this
    injection this
  subst z
  have old : ∀ (j : Nat) (w : D), (s.ρ.set i (some (.own y)))[j]? = some (some (.own w)) → (j = i ∧ w = y) ∨ (j ≠ i ∧ s.ρ[j]? = some (some (.own w))) := fun j w q => by
    by_cases z : i = j
    · subst z
      have hl : i < s.ρ.length := (List.getElem?_eq_some_iff.mp e).1
      rw [List.getElem?_set_self hl] at q
      injection q with q
      injection q with q
      injection q with q
      exact .inl ⟨rfl, q.symm⟩
    · rw [List.getElem?_set_ne z] at q
      exact .inr ⟨fun w => z w.symm, q⟩
  have back : ∀ (j : Nat) (w : D), (s.ρ.set i (some (.own y)))[j]? = some (some (.own w)) → ∃ w', s.ρ[j]? = some (some (.own w')) := fun j w q => by
    rcases old j w q with ⟨q1, _⟩ | ⟨_, q1⟩
    · rw [q1]
      exact ⟨x, e⟩
    · exact ⟨w, q1⟩
  exact
  { ex0 := r.ex0
    ex := fun a o' e' => by
      have q : a ≠ p' := fun q => by
        rw [q, e2] at e'
        cases e'
      rw [upd_ne q]
      exact r.ex _ _ e'
    fr := fun a o' h1 e' => by
      have q : a ≠ p' := fun q => by
        rw [q, e3] at e'
        cases e'
      rw [upd_ne q]
      exact r.fr a o' h1 e'
    fs := r.fs
    dice := fun a e' => by
      have q : a ≠ p' := fun q => e4 (by rw [← q]; exact e'.symm)
      rw [upd_ne q]
      exact r.dice a e'
    len := by
      show (s.ρ.set i _).length = _
      rw [List.length_set]
      exact r.len
    slot := fun j w q => by
      have q' : (s.ρ.set i (some (.own y)))[j]? = some (some (.d w)) := q
      by_cases z : i = j
      · subst z
        have hl : i < s.ρ.length := (List.getElem?_eq_some_iff.mp e).1
        rw [List.getElem?_set_self hl] at q'
        cases q'
      · rw [List.getElem?_set_ne z] at q'
        exact r.slot j w q'
    own := fun j w q => by
      rcases old j w q with ⟨q1, q2⟩ | ⟨q1, q2⟩
      · subst q1
        subst q2
        exact ⟨p', e1, e2, e3, e4, a⟩
      · obtain ⟨q3, w1, w2, w3, w4, w5⟩ := r.own j w q2
        have qp : q3 ≠ p' := fun z => q1 (r.inj j i w x p' q2 e (by rw [← z]; exact w1) e1)
        exact ⟨q3, w1, w2, w3, w4, w5.mono (Ex.refl _) (upd_ne qp)⟩
    inj := fun j k y' z' q h1 h2 h3 h4 => by
      obtain ⟨w1, a1⟩ := back j y' h1
      obtain ⟨w2, a2⟩ := back k z' h2
      exact r.inj j k w1 w2 q a1 a2 h3 h4 }
/-- slot i's own object leaves the slot -/
theorem Rs.take {i : Nat} (r : Rs Φ Hs s σ H) (e : s.ρ[i]? = some (some (.own x))) (hp : σ[i]? = some (some (.ref p))) :
    Rs Φ Hs { s with ρ := s.ρ.set i none } σ H ∧ FreshAt Φ Hs { s with ρ := s.ρ.set i none } σ H p x := by
  obtain ⟨p', e1, e2, e3, e4, e5⟩ := r.own i x e
  have z : p' = p := by
    have := e1.symm.trans hp
    injection this with this
    injection this with this
    injection this
  subst z
  have old : ∀ (j : Nat) (y : SV), (s.ρ.set i none)[j]? = some (some y) → j ≠ i ∧ s.ρ[j]? = some (some y) := fun j y q => by
    by_cases z : i = j
    · subst z
      have hl : i < s.ρ.length := (List.getElem?_eq_some_iff.mp e).1
      rw [List.getElem?_set_self hl] at q
      cases q
    · rw [List.getElem?_set_ne z] at q
      exact ⟨fun w => z w.symm, q⟩
  refine ⟨?_, ⟨e2, e3, e4, fun j y q w => ?_, e5⟩⟩
  · exact
    { ex0 := r.ex0
      ex := r.ex
      fr := r.fr
      fs := r.fs
      dice := r.dice
      len := by
        show (s.ρ.set i _).length = _
        rw [List.length_set]
        exact r.len
      slot := fun j y q => r.slot j y (old j _ q).2
      own := fun j y q => r.own j y (old j _ q).2
      inj := fun j k y z q h1 h2 h3 h4 => r.inj j k y z q (old j _ h1).2 (old k _ h2).2 h3 h4 }
  · obtain ⟨h1, h2⟩ := old j _ q
    exact h1 (r.inj j i y x p' h2 e w e1)
/-- a further object that must not be changed -/
def Fx.pin (Φ : Fx) (a : Addr) (o : HO) : Fx := { Φ with Hf := upd Φ.Hf a o }
theorem Rs.pin {a : Addr} (r : Rs Φ Hs s σ H) (h1 : Hs a = none) (h2 : ∀ (i : Nat) (y : D), s.ρ[i]? = some (some (.own y)) → σ[i]? ≠ some (some (.ref a))) (h : H a = some o) : Rs (Φ.pin a o) Hs s σ H where
  ex0 := r.ex0
  ex := r.ex
  fr := fun b o' hb e => by
    have e : upd Φ.Hf a o b = some o' := e
    by_cases q : b = a
    · subst q
      rw [upd_same] at e
      rw [← e]
      exact h
    · rw [upd_ne q] at e
      exact r.fr b o' hb e
  fs := fun b o' e => by
    have e : upd Φ.Hf a o b = some o' := e
    by_cases q : b = a
    · subst q
      show Hs b = Φ.H0 b
      rw [h1]
      cases z : Φ.H0 b with
      | none => rfl
      | some w =>
        have := r.ex0 _ _ z
        rw [h1] at this
        cases this
    · rw [upd_ne q] at e
      exact r.fs b o' e
  dice := r.dice
  len := r.len
  slot := r.slot
  own := fun i y e => by
    obtain ⟨q, e1, e2, e3, e4, e5⟩ := r.own i y e
    refine ⟨q, e1, e2, ?_, e4, e5⟩
    show upd Φ.Hf a o q = none
    rw [upd_ne (fun z => h2 i y e (by rw [← z]; exact e1))]
    exact e3
  inj := r.inj
theorem Rs.unpin {a : Addr} (r : Rs (Φ.pin a o) Hs s σ H) (hd : some a ≠ Φ.C.dl) (h0 : Φ.Hf a = none) : Rs Φ Hs s σ H where
  ex0 := r.ex0
  ex := r.ex
  fr := fun b o' hb e => by
    refine r.fr b o' hb ?_
    show upd Φ.Hf a o b = some o'
    rw [upd_ne (ne_of_none e h0)]
    exact e
  fs := fun b o' e => by
    refine r.fs b o' ?_
    show upd Φ.Hf a o b = some o'
    rw [upd_ne (ne_of_none e h0)]
    exact e
  dice := r.dice
  len := r.len
  slot := r.slot
  own := fun i y e => by
    obtain ⟨q, e1, e2, e3, e4, e5⟩ := r.own i y e
    have e3 : upd Φ.Hf a o q = none := e3
    by_cases z : q = a
    · rw [z, upd_same] at e3
      cases e3
    · rw [upd_ne z] at e3
      exact ⟨q, e1, e2, e3, e4, e5⟩
  inj := r.inj
theorem Rs.pinned {a : Addr} (r : Rs (Φ.pin a o) Hs s σ H) (hd : some a ≠ Φ.C.dl) : H a = some o ∧ (∀ (i : Nat) (y : D), s.ρ[i]? = some (some (.own y)) → σ[i]? ≠ some (some (.ref a))) := by
  refine ⟨r.fr a o hd upd_same, fun i y e w => ?_⟩
  obtain ⟨q, e1, e2, e3, e4, e5⟩ := r.own i y e
  have z : q = a := by
    have := e1.symm.trans w
    injection this with this
    injection this with this
    injection this
  subst z
  have e3 : upd Φ.Hf q o q = none := e3
  rw [upd_same] at e3
  cases e3
/-- the pinned object is changed by whoever pinned it -/
theorem Rs.repin {a : Addr} {o' : HO} (r : Rs (Φ.pin a o) Hs s σ H) (hd : some a ≠ Φ.C.dl) (h0 : Φ.Hf a = none) (hs : Hs a = none) : Rs (Φ.pin a o') Hs s σ (upd H a o') := by
  obtain ⟨h1, h2⟩ := r.pinned hd
  have r0 := r.unpin hd h0
  have r1 : Rs Φ Hs s σ (upd H a o') :=
    { ex0 := r0.ex0
      ex := fun b w e => by
        rw [upd_ne (fun z => by rw [z, hs] at e; cases e)]
        exact r0.ex b w e
      fr := fun b w hb e => by
        rw [upd_ne (fun z => by rw [z, h0] at e; cases e)]
        exact r0.fr b w hb e
      fs := r0.fs
      dice := fun b e => by
        rw [upd_ne (fun z => hd (by rw [← z]; exact e.symm))]
        exact r0.dice b e
      len := r0.len
      slot := r0.slot
      own := fun i y e => by
        obtain ⟨q, e1, e2, e3, e4, e5⟩ := r0.own i y e
        have qa : q ≠ a := fun z => h2 i y e (by rw [← z]; exact e1)
        exact ⟨q, e1, e2, e3, e4, e5.mono (Ex.refl _) (upd_ne qa)⟩
      inj := r0.inj }
  exact r1.pin hs h2 upd_same
/-- slots are forgotten -/
theorem Rs.forget {ρ' : List (Option SV)} {σ' : L2.St} (r : Rs Φ Hs s σ H) (hl : ρ'.length = σ'.length) (h : ∀ (i : Nat) (y : SV), ρ'[i]? = some (some y) → s.ρ[i]? = some (some y) ∧ σ'[i]? = σ[i]?) : Rs Φ Hs { s with ρ := ρ' } σ' H where
  ex0 := r.ex0
  ex := r.ex
  fr := r.fr
  fs := r.fs
  dice := r.dice
  len := hl
  slot := fun i y e => by
    obtain ⟨h1, h2⟩ := h i _ e
    rw [h2]
    exact r.slot i y h1
  own := fun i y e => by
    obtain ⟨h1, h2⟩ := h i _ e
    rw [h2]
    exact r.own i y h1
  inj := fun j k y z q h1 h2 h3 h4 => by
    obtain ⟨a1, a2⟩ := h j _ h1
    obtain ⟨b1, b2⟩ := h k _ h2
    rw [a2] at h3
    rw [b2] at h4
    exact r.inj j k y z q a1 b1 h3 h4
end
end DL


set_option Elab.async false
set_option linter.all false
set_option maxRecDepth 100000
set_option maxHeartbeats 2000000
/-! THE DATA LAYER, part 3: canonical readings, and the rules for names, constants, built-in operations, stores, blocks -/
namespace DL
open PySem PySem.Spec PyProof.Rows L2

structure Tie (K : PySem.W.Frag) (cl : Str → Option Addr) (Φ : Fx) : Prop where
  k : Φ.C.K = K
  c : Φ.C.cls = cl

section
variable (K : PySem.W.Frag) (cl : Str → Option Addr)
def tE (f : FE) : TE := fun σ H Q => ∃ Φ Hs s b s', Tie K cl Φ ∧ Rs Φ Hs s σ H ∧ f s = some (b, s') ∧ ∀ v H' Hs', Ex Hs Hs' → Rs Φ Hs' s' σ H' → RB Φ Hs' s' σ H' v b → Q v H'
def tT (f : FT) : TT := fun σ H Q => ∃ Φ Hs s b s', Tie K cl Φ ∧ Rs Φ Hs s σ H ∧ f s = some (b, s') ∧ ∀ H' Hs', Ex Hs Hs' → Rs Φ Hs' s' σ H' → Q b H'
/-- the values of several expressions: lasting data, or own objects of slots -/
inductive RBs (Φ : Fx) (Hs : Hp) (σ : L2.St) : List V → List BV → Prop
  | nil : RBs Φ Hs σ [] []
  | st {v : V} {d : D} {vs : List V} {bs : List BV} : Rep Φ.C Hs v d → RBs Φ Hs σ vs bs → RBs Φ Hs σ (v :: vs) (.st d :: bs)
  | ow {v : V} {i : Nat} {vs : List V} {bs : List BV} : σ[i]? = some (some v) → RBs Φ Hs σ vs bs → RBs Φ Hs σ (v :: vs) (.ow i :: bs)
def tA (f : FA) : TA := fun σ H Q => ∃ Φ Hs s bs s', Tie K cl Φ ∧ Rs Φ Hs s σ H ∧ f s = some (bs, s') ∧ ∀ vs H' Hs', Ex Hs Hs' → Rs Φ Hs' s' σ H' → RBs Φ Hs' σ vs bs → Q vs H'
def Post (Φ : Fx) (Hs' : Hp) (s' : DS) (D : Ends) (σ' : L2.St) (H' : Hp) : Out → Prop
  | .nx => D.nx σ' H'
  | .brk => D.bk σ' H'
  | .cnt => D.ct σ' H'
  | .ret b => ∀ v, RB Φ Hs' s' σ' H' v b → D.rt v H'
def tS (f : FS) : TS := fun D σ H => ∃ Φ Hs s o s', Tie K cl Φ ∧ Rs Φ Hs s σ H ∧ f s = some (o, s') ∧ ∀ σ' H' Hs', Ex Hs Hs' → Rs Φ Hs' s' σ' H' → Post Φ Hs' s' D σ' H' o
/-- two rows of slots that differ at ix alone -/
def Off (ix : List Nat) (σ σ' : L2.St) : Prop := σ'.length = σ.length ∧ ∀ i, i ∉ ix → σ'[i]? = σ[i]?
def tG (ix : List Nat) (f : FG) : TG := fun v σ H Q => ∃ Φ Hs s d s', Tie K cl Φ ∧ Rs Φ Hs s σ H ∧ Rep Φ.C Hs v d ∧ f d s = some s' ∧ ∀ σ' H' Hs', Ex Hs Hs' → Rs Φ Hs' s' σ' H' → Off ix σ σ' → Q σ' H'
/-- what a walk gives at turn i -/
def YD (C : Ctx) (Hs : Hp) (ds : List D) : Nat → Hp → V → Hp → Prop := fun i H x H' => ∃ d, ds[i]? = some d ∧ ((H' = H ∧ Rep C Hs x d) ∨ ∃ T o, H T = none ∧ H' = upd H T o ∧ ∀ Hs', Ex Hs Hs' → Hs' T = none → Rep C (upd Hs' T o) x d)
def tI (f : FI) : TI := fun σ H R => ∃ Φ Hs s ds s', Tie K cl Φ ∧ Rs Φ Hs s σ H ∧ f s = some (ds, s') ∧ ∀ J H' Hs', Ex Hs Hs' → Rs Φ Hs' s' σ H' → Walk J ds.length (fun H => Ex Hs' H) (YD Φ.C Hs' ds) → R J H'
end

/-! ### the evaluator's own words -/
def settle : BV → BV
  | .fr x => .st x
  | b => b
def varE (i : Nat) : FE := fun s => match s.ρ[i]? with
  | some (some (.d x)) => some (.st x, s)
  | some (some (.own _)) => some (.ow i, s)
  | _ => none
def cE (d : D) : FE := fun s => some (.st d, s)
def nilA : FA := fun s => some ([], s)
def consA (f : FE) (g : FA) : FA := fun s => match f s with
  | some (b, s1) => match g s1 with
    | some (bs, s2) => some (settle b :: bs, s2)
    | none => none
  | none => none
/-- what is held -/
def slotC : Option (Option SV) → Option D
  | some (some (.d x)) => some x
  | some (some (.own x)) => some x
  | _ => none
def cont (s : DS) : BV → Option D
  | .st d => some d
  | .fr d => some d
  | .ow i => slotC s.ρ[i]?
def conts (s : DS) : List BV → Option (List D)
  | [] => some []
  | b :: r => match cont s b with
    | some d => match conts s r with
      | some ds => some (d :: ds)
      | none => none
    | none => none
/-- a built-in operation on the contents -/
def primE (pf : List D → Option BV) (f : FA) : FE := fun s => match f s with
  | some (bs, s1) => match conts s1 bs with
    | some ds => match pf ds with
      | some (.st d) => some (.st d, s1)
      | some (.fr d) => some (.fr d, s1)
      | _ => none
    | none => none
  | none => none

/-- the operand of a built-in operation: its items are lasting -/
def Opd (C : Ctx) (Hs H : Hp) (v : V) : D → Prop
  | .lst ds => ∃ p xs, v = .ref p ∧ H p = some (.lst xs) ∧ Reps C Hs xs ds
  | .dct kvs => ∃ p ks, v = .ref p ∧ H p = some (.dK ks) ∧ RepKs C Hs ks kvs
  | .obj c gs => ∃ p A dx fs, v = .ref p ∧ C.cls c = some A ∧ H p = some (.ins A dx fs) ∧ RepFs C Hs fs gs
  | d => Rep C Hs v d
inductive Opds (C : Ctx) (Hs H : Hp) : List V → List D → Prop
  | nil : Opds C Hs H [] []
  | cons {v : V} {vs : List V} {d : D} {ds : List D} : Opd C Hs H v d → Opds C Hs H vs ds → Opds C Hs H (v :: vs) (d :: ds)
theorem opd_rep {C : Ctx} {Hs H : Hp} (e : Ex Hs H) : ∀ {v : V} {d : D}, Rep C Hs v d → Opd C Hs H v d
  | _, _, .non => .non
  | _, _, .bl b => .bl b
  | _, _, .int b => .int b
  | _, _, .str b => .str b
  | _, _, .lst h r => ⟨_, _, rfl, e _ _ h, r⟩
  | _, _, .tup h r => .tup h r
  | _, _, .dct h r => ⟨_, _, rfl, e _ _ h, r⟩
  | _, _, .obj c h r => ⟨_, _, _, _, rfl, c, e _ _ h, r⟩
  | _, _, .dice h => .dice h
  | _, _, .adr a => .adr a
  | _, _, .scr h => .scr h
  | _, _, .exc c h r => .exc c h r
theorem opd_own {C : Ctx} {Hs H : Hp} {p : Addr} : ∀ {d : D}, OwnAt C Hs H p d → Opd C Hs H (.ref p) d
  | .lst _, ⟨xs, h, r⟩ => ⟨_, _, rfl, h, r⟩
  | .dct _, ⟨xs, h, r⟩ => ⟨_, _, rfl, h, r⟩
  | .obj _ _, ⟨A, dx, fs, c, h, r⟩ => ⟨_, _, _, _, rfl, c, h, r⟩
section
variable {Φ : Fx} {Hs Hs' H H' : Hp} {s s' : DS} {σ : L2.St}
theorem RBs.mono {vs : List V} {bs : List BV} (e : Ex Hs Hs') (h : RBs Φ Hs σ vs bs) : RBs Φ Hs' σ vs bs := by
  induction h with
  | nil => exact .nil
  | st r _ ih => exact .st (r.mono e) ih
  | ow r _ ih => exact .ow r ih
theorem opd_slot (r : Rs Φ Hs s σ H) {i : Nat} {v : V} {d : D} (hv : σ[i]? = some (some v)) (hc : cont s (.ow i) = some d) : Opd Φ.C Hs H v d := by
  have hc : slotC s.ρ[i]? = some d := hc
  match e : s.ρ[i]?, hc with
  | some (some (.d x)), hc =>
    have hc : some x = some d := hc
    injection hc with hc
    subst hc
    obtain ⟨v', e1, e2⟩ := r.slot i _ e
    rw [hv] at e1
    injection e1 with e1
    injection e1 with e1
    subst e1
    exact opd_rep r.ex e2
  | some (some (.own x)), hc =>
    have hc : some x = some d := hc
    injection hc with hc
    subst hc
    obtain ⟨p, e1, e2, e3, e4, e5⟩ := r.own i _ e
    rw [hv] at e1
    injection e1 with e1
    injection e1 with e1
    subst e1
    exact opd_own e5
  | some none, hc =>
    cases hc
  | none, hc =>
    cases hc
theorem opds_of (r : Rs Φ Hs s σ H) : ∀ {vs : List V} {bs : List BV} {ds : List D}, RBs Φ Hs σ vs bs → conts s bs = some ds → Opds Φ.C Hs H vs ds
  | _, _, _, .nil, e => by
    injection e with e
    subst e
    exact .nil
  | _, _, _, .st (d := d) (bs := bs) h t, e => by
    unfold conts at e
    simp only [cont] at e
    cases q : conts s bs with
    | none =>
      rw [q] at e
      cases e
    | some ds =>
      rw [q] at e
      injection e with e
      subst e
      exact .cons (opd_rep r.ex h) (opds_of r t q)
  | _, _, _, .ow (i := i) (bs := bs) h t, e => by
    unfold conts at e
    cases q0 : cont s (.ow i) with
    | none =>
      rw [q0] at e
      cases e
    | some d =>
      rw [q0] at e
      cases q : conts s bs with
      | none =>
        rw [q] at e
        cases e
      | some ds =>
        rw [q] at e
        injection e with e
        subst e
        exact .cons (opd_slot r h q0) (opds_of r t q)
end

/-- a built-in operation, by its values (r) and by its data (pf) -/
def POk (K : PySem.W.Frag) (cl : Str → Option Addr) (r : List V → Hp → VK → Prop) (pf : List D → Option BV) : Prop :=
  ∀ (Φ : Fx) (Hs : Hp) (s : DS) (σ : L2.St) (H : Hp) (vs : List V) (ds : List D) (b : BV), Tie K cl Φ → Rs Φ Hs s σ H → Opds Φ.C Hs H vs ds → pf ds = some b →
    ∀ Q : VK, (∀ v H' Hs', Ex Hs Hs' → Rs Φ Hs' s σ H' → RB Φ Hs' s σ H' v b → Q v H') → r vs H Q

section
variable {X : Cx} {cl : Str → Option Addr} {K : PySem.W.Frag}
/-! ### names, constants -/
theorem se_var (i : Nat) (σ : L2.St) (H : Hp) (Q : VK) (h : tE K cl (varE i) σ H Q) : tVar i σ H Q := by
  obtain ⟨Φ, Hs, s, b, s', T, r, e, k⟩ := h
  unfold varE at e
  split at e
  · rename_i x q
    injection e with e
    injection e with e1 e2
    subst e1
    subst e2
    obtain ⟨v, h1, h2⟩ := r.slot i x q
    exact ⟨v, h1, k v H Hs (Ex.refl _) r h2⟩
  · rename_i x q
    injection e with e
    injection e with e1 e2
    subst e1
    subst e2
    obtain ⟨p, h1, _⟩ := r.own i x q
    exact ⟨_, h1, k _ H Hs (Ex.refl _) r ⟨h1, _, q⟩⟩
  · cases e
/-- data that are one value -/
def scV : D → Option V
  | .non => some .non
  | .bl b => some (.bl b)
  | .int i => some (.int i)
  | .str x => some (.str (mkS x))
  | _ => none
theorem scV_rep {C : Ctx} {H : Hp} {d : D} {v : V} (h : scV d = some v) : Rep C H v d := by
  cases d <;> (first | (cases h; first | exact .non | exact .bl _ | exact .int _ | exact .str _) | cases h)
theorem se_c {d : D} {v : V} (hv : scV d = some v) (σ : L2.St) (H : Hp) (Q : VK) (h : tE K cl (cE d) σ H Q) : tC v σ H Q := by
  obtain ⟨Φ, Hs, s, b, s', T, r, e, k⟩ := h
  injection e with e
  injection e with e1 e2
  subst e1
  subst e2
  exact k _ H Hs (Ex.refl _) r (scV_rep hv)
/-! ### several expressions -/
theorem sa_nil (σ : L2.St) (H : Hp) (Q : List V → Hp → Prop) (h : tA K cl nilA σ H Q) : tNil σ H Q := by
  obtain ⟨Φ, Hs, s, b, s', T, r, e, k⟩ := h
  injection e with e
  injection e with e1 e2
  subst e1
  subst e2
  exact k _ H Hs (Ex.refl _) r .nil
/-- an outcome, settled -/
theorem settled {Φ : Fx} {Hs H : Hp} {s : DS} {σ : L2.St} {v : V} {b : BV} (r : Rs Φ Hs s σ H) (h : RB Φ Hs s σ H v b) : ∃ Hs', Ex Hs Hs' ∧ Rs Φ Hs' s σ H ∧ RBs Φ Hs' σ [v] [settle b] := by
  cases b with
  | st d => exact ⟨Hs, Ex.refl _, r, .st h .nil⟩
  | ow i => exact ⟨Hs, Ex.refl _, r, .ow h.1 .nil⟩
  | fr x =>
    obtain ⟨p, rfl, f⟩ := h
    obtain ⟨Hs', e, r', q⟩ := r.freeze f
    exact ⟨Hs', e, r', .st q .nil⟩
theorem RBs.cons1 {Φ : Fx} {Hs : Hp} {σ : L2.St} {v : V} {b : BV} {vs : List V} {bs : List BV} (h : RBs Φ Hs σ [v] [b]) (t : RBs Φ Hs σ vs bs) : RBs Φ Hs σ (v :: vs) (b :: bs) := by
  cases h with
  | st r _ => exact .st r t
  | ow r _ => exact .ow r t
theorem sa_cons {f : FE} {g : FA} (σ : L2.St) (H : Hp) (Q : List V → Hp → Prop) (h : tA K cl (consA f g) σ H Q) : tCons (tE K cl f) (tA K cl g) σ H Q := by
  obtain ⟨Φ, Hs, s, b, s', T, r, e, k⟩ := h
  unfold consA at e
  cases q1 : f s with
  | none =>
    rw [q1] at e
    cases e
  | some y =>
    obtain ⟨b1, s1⟩ := y
    rw [q1] at e
    cases q2 : g s1 with
    | none =>
      simp only [q2] at e
      cases e
    | some y =>
      obtain ⟨bs, s2⟩ := y
      simp only [q2] at e
      injection e with e
      injection e with e1 e2
      subst e1
      subst e2
      refine ⟨Φ, Hs, s, b1, s1, T, r, q1, fun v H1 Hs1 x1 r1 h1 => ?_⟩
      obtain ⟨Hs2, x2, r2, h2⟩ := settled r1 h1
      refine ⟨Φ, Hs2, s1, bs, s2, T, r2, q2, fun vs H3 Hs3 x3 r3 h3 => ?_⟩
      exact k _ _ _ (x1.trans (x2.trans x3)) r3 (RBs.cons1 (h2.mono x3) h3)
/-! ### built-in operations -/
theorem prim_inv {pf : List D → Option BV} {f : FA} {s s' : DS} {b : BV} (e : primE pf f s = some (b, s')) : ∃ bs ds, f s = some (bs, s') ∧ conts s' bs = some ds ∧ pf ds = some b := by
  unfold primE at e
  cases q1 : f s with
  | none =>
    rw [q1] at e
    cases e
  | some y =>
    obtain ⟨bs, s1⟩ := y
    rw [q1] at e
    simp only at e
    cases q2 : conts s1 bs with
    | none =>
      rw [q2] at e
      cases e
    | some ds =>
      rw [q2] at e
      simp only at e
      cases q3 : pf ds with
      | none =>
        rw [q3] at e
        cases e
      | some y =>
        rw [q3] at e
        cases y with
        | st d =>
          injection e with e
          injection e with e1 e2
          subst e1
          subst e2
          exact ⟨bs, ds, rfl, q2, q3⟩
        | fr d =>
          injection e with e
          injection e with e1 e2
          subst e1
          subst e2
          exact ⟨bs, ds, rfl, q2, q3⟩
        | ow i => cases e
theorem se_prim {pf : List D → Option BV} {f : FA} {r : List V → Hp → VK → Prop} (hp : POk K cl r pf) (σ : L2.St) (H : Hp) (Q : VK) (h : tE K cl (primE pf f) σ H Q) : tCB r (tA K cl f) σ H Q := by
  obtain ⟨Φ, Hs, s, b, s', T, r, e, k⟩ := h
  obtain ⟨bs, ds, e1, e2, e3⟩ := prim_inv e
  refine ⟨Φ, Hs, s, bs, s', T, r, e1, fun vs H1 Hs1 x1 r1 h1 => ?_⟩
  exact hp Φ Hs1 s' σ H1 vs ds b T r1 (opds_of r1 h1 e2) e3 Q fun v H2 Hs2 x2 r2 h2 => k v H2 Hs2 (x1.trans x2) r2 h2
/-- two operands -/
def r2L (r : R2) : List V → Hp → VK → Prop := fun vs H Q => ∃ x y, vs = [x, y] ∧ r x y H Q
def r1L (r : V → Hp → VK → Prop) : List V → Hp → VK → Prop := fun vs H Q => ∃ x, vs = [x] ∧ r x H Q
theorem se_op {pf : List D → Option BV} {f g : FE} {r : R2} (hp : POk K cl (r2L r) pf) (σ : L2.St) (H : Hp) (Q : VK) (h : tE K cl (primE pf (consA f (consA g nilA))) σ H Q) : tOp r (tE K cl f) (tE K cl g) σ H Q := by
  have h1 := se_prim hp σ H Q h
  have mono : ∀ {Q Q' : List V → Hp → Prop}, (∀ vs H, Q vs H → Q' vs H) → tA K cl (consA f (consA g nilA)) σ H Q → tA K cl (consA f (consA g nilA)) σ H Q' := fun hq ⟨Φ, Hs, s, b, s', T, r, e, k⟩ => ⟨Φ, Hs, s, b, s', T, r, e, fun v H' Hs' a b c => hq _ _ (k v H' Hs' a b c)⟩
  have h2 := sa_cons σ H _ (show tA K cl (consA f (consA g nilA)) σ H (fun vs H => r2L r vs H Q) from h1)
  -- the first operand, then the second
  obtain ⟨Φ, Hs, s, b, s', T, rr, e, k⟩ := h2
  refine ⟨Φ, Hs, s, b, s', T, rr, e, fun v H' Hs' a b' c => ?_⟩
  have h3 := sa_cons σ H' _ (k v H' Hs' a b' c)
  obtain ⟨Φ2, Hs2, s2, b2, s2', T2, rr2, e2, k2⟩ := h3
  refine ⟨Φ2, Hs2, s2, b2, s2', T2, rr2, e2, fun v2 H2 Hs2' a2 b2' c2 => ?_⟩
  obtain ⟨x, y, q, z⟩ := sa_nil σ H2 _ (k2 v2 H2 Hs2' a2 b2' c2)
  injection q with q1 q2
  injection q2 with q2 q3
  subst q1
  subst q2
  exact z
theorem se_un {pf : List D → Option BV} {f : FE} {r : V → Hp → VK → Prop} (hp : POk K cl (r1L r) pf) (σ : L2.St) (H : Hp) (Q : VK) (h : tE K cl (primE pf (consA f nilA)) σ H Q) : tUn r (tE K cl f) σ H Q := by
  have h1 := se_prim hp σ H Q h
  have h2 := sa_cons σ H _ (show tA K cl (consA f nilA) σ H (fun vs H => r1L r vs H Q) from h1)
  obtain ⟨Φ, Hs, s, b, s', T, rr, e, k⟩ := h2
  refine ⟨Φ, Hs, s, b, s', T, rr, e, fun v H' Hs' a b' c => ?_⟩
  obtain ⟨x, q, z⟩ := sa_nil σ H' _ (k v H' Hs' a b' c)
  injection q with q1 q2
  subst q1
  exact z
end
end DL


set_option Elab.async false
set_option linter.all false
set_option maxRecDepth 100000
set_option maxHeartbeats 2000000
/-! THE DATA LAYER, part 4: tests, statements, loops -/
namespace DL
open PySem PySem.Spec PyProof.Rows L2

/-! ### tests -/
def lineN : Nat := 16777216
theorem line_eq : sizeLine = lineN := sizeLine_eq
def truD : D → Option Bool
  | .non => some false
  | .bl b => some b
  | .int i => some (i != 0)
  | .str x => if x.length ≤ lineN then some ((x.length : Int) != 0) else none
  | .lst xs => some (!xs.isEmpty)
  | .tup xs => some (!xs.isEmpty)
  | .dct xs => some (!xs.isEmpty)
  | _ => none
def blD : D → Option Bool
  | .bl b => some b
  | _ => none
/-- an expression as a test, by truth; one whose value is a bool -/
def truT (f : FE) : FT := fun s => match f s with
  | some (b, s1) => match cont s1 b with
    | some d => match truD d with
      | some k => some (k, s1)
      | none => none
    | none => none
  | none => none
def blT (f : FE) : FT := fun s => match f s with
  | some (.st (.bl k), s1) => some (k, s1)
  | _ => none
def andT (f g : FT) : FT := fun s => match f s with
  | some (true, s1) => g s1
  | r => r
def orT (f g : FT) : FT := fun s => match f s with
  | some (false, s1) => g s1
  | r => r
def notT (f : FT) : FT := fun s => match f s with
  | some (b, s1) => some (!b, s1)
  | none => none
def andE (f g : FE) : FE := fun s => match f s with
  | some (.st (.bl true), s1) => g s1
  | some (.st (.bl false), s1) => some (.st (.bl false), s1)
  | _ => none
def orE (f g : FE) : FE := fun s => match f s with
  | some (.st (.bl false), s1) => g s1
  | some (.st (.bl true), s1) => some (.st (.bl true), s1)
  | _ => none
def notE (f : FE) : FE := fun s => match f s with
  | some (.st (.bl b), s1) => some (.st (.bl (!b)), s1)
  | _ => none
def ifE (c : FT) (f g : FE) : FE := fun s => match c s with
  | some (true, s1) => f s1
  | some (false, s1) => g s1
  | none => none

section
variable {cl : Str → Option Addr} {K : PySem.W.Frag}
theorem RepKs.isEmpty {C : Ctx} {H : Hp} : ∀ {a : List (Key × V)} {b : List (DK × D)}, RepKs C H a b → b.isEmpty = a.isEmpty
  | _, _, .nil => rfl
  | _, _, .cons _ _ => rfl
theorem Reps.isEmpty {C : Ctx} {H : Hp} : ∀ {a : List V} {b : List D}, Reps C H a b → b.isEmpty = a.isEmpty
  | _, _, .nil => rfl
  | _, _, .cons _ _ => rfl
theorem RB.opd {Φ : Fx} {Hs H : Hp} {s : DS} {σ : L2.St} {v : V} {b : BV} {d : D} (r : Rs Φ Hs s σ H) (h : RB Φ Hs s σ H v b) (c : cont s b = some d) : Opd Φ.C Hs H v d := by
  cases b with
  | st d' =>
    injection c with c
    subst c
    exact opd_rep r.ex h
  | ow i => exact opd_slot r h.1 c
  | fr x =>
    obtain ⟨p, rfl, f⟩ := h
    injection c with c
    subst c
    exact opd_own f.at_
theorem tru_of {C : Ctx} {Hs H : Hp} (e : Ex Hs H) : ∀ {v : V} {d : D} {k : Bool}, Opd C Hs H v d → truD d = some k → TruV C.K v H k
  | v, .non, k, h, q => by
    cases h
    injection q with q
    exact q.symm
  | v, .bl b, k, h, q => by
    cases h
    injection q with q
    exact q.symm
  | v, .int i, k, h, q => by
    cases h
    injection q with q
    exact q.symm
  | v, .str x, k, h, q => by
    cases h
    have q : (if x.length ≤ lineN then some ((x.length : Int) != 0) else none) = some k := q
    by_cases hl : x.length ≤ lineN
    · rw [if_pos hl] at q
      injection q with q
      have hz : (mkS x).length = x.length := rfl
      exact ⟨by rw [line_eq, hz]; exact hl, by rw [hz]; exact q.symm⟩
    · rw [if_neg hl] at q
      cases q
  | v, .lst ds, k, h, q => by
    obtain ⟨p, xs, rfl, hS, hr⟩ := h
    injection q with q
    exact .inl ⟨xs, SqL.of hS, by rw [← q, hr.isEmpty]⟩
  | v, .tup ds, k, h, q => by
    cases h with
    | tup hS hr =>
      injection q with q
      exact .inr (.inl ⟨_, ex_t e hS, by rw [← q, hr.isEmpty]⟩)
  | v, .dct ds, k, h, q => by
    obtain ⟨p, xs, rfl, hS, hr⟩ := h
    injection q with q
    exact .inr (.inr ⟨xs, hS, by rw [← q, hr.isEmpty]⟩)
theorem st_tru {f : FE} (σ : L2.St) (H : Hp) (Q : Bool → Hp → Prop) (h : tT K cl (truT f) σ H Q) : tE K cl f σ H fun x H' => ∃ k, TruV K x H' k ∧ Q k H' := by
  obtain ⟨Φ, Hs, s, b, s', T, r, e, k⟩ := h
  unfold truT at e
  cases q1 : f s with
  | none =>
    rw [q1] at e
    cases e
  | some y =>
    obtain ⟨b1, s1⟩ := y
    rw [q1] at e
    simp only at e
    cases q2 : cont s1 b1 with
    | none =>
      rw [q2] at e
      cases e
    | some d =>
      rw [q2] at e
      simp only at e
      cases q3 : truD d with
      | none =>
        rw [q3] at e
        cases e
      | some k' =>
        rw [q3] at e
        injection e with e
        injection e with e1 e2
        subst e1
        subst e2
        refine ⟨Φ, Hs, s, b1, s1, T, r, q1, fun v H1 Hs1 x1 r1 h1 => ?_⟩
        have z := tru_of r1.ex (RB.opd r1 h1 q2) q3
        rw [T.k] at z
        exact ⟨_, z, k H1 Hs1 x1 r1⟩
theorem st_bl {f : FE} (σ : L2.St) (H : Hp) (Q : Bool → Hp → Prop) (h : tT K cl (blT f) σ H Q) : tTest (tE K cl f) σ H Q := by
  obtain ⟨Φ, Hs, s, b, s', T, r, e, k⟩ := h
  unfold blT at e
  split at e
  · rename_i k' s1 q
    injection e with e
    injection e with e1 e2
    subst e1
    subst e2
    refine ⟨Φ, Hs, s, _, _, T, r, q, fun v H1 Hs1 x1 r1 h1 => ?_⟩
    have h1 : Rep Φ.C Hs1 v (.bl k') := h1
    cases h1
    exact ⟨_, rfl, k H1 Hs1 x1 r1⟩
  · cases e
theorem st_and {f g : FT} (σ : L2.St) (H : Hp) (Q : Bool → Hp → Prop) (h : tT K cl (andT f g) σ H Q) : tAnd (tT K cl f) (tT K cl g) σ H Q := by
  obtain ⟨Φ, Hs, s, b, s', T, r, e, k⟩ := h
  unfold andT at e
  split at e
  · rename_i s1 q
    refine ⟨Φ, Hs, s, _, _, T, r, q, fun H1 Hs1 x1 r1 => ?_⟩
    refine iteT ?_
    exact ⟨Φ, Hs1, s1, b, s', T, r1, e, fun H2 Hs2 x2 r2 => k H2 Hs2 (x1.trans x2) r2⟩
  · rename_i hn
    refine ⟨Φ, Hs, s, b, s', T, r, e, fun H1 Hs1 x1 r1 => ?_⟩
    cases b with
    | true => exact absurd e (hn s')
    | false =>
      refine iteF ?_
      exact k H1 Hs1 x1 r1
theorem st_or {f g : FT} (σ : L2.St) (H : Hp) (Q : Bool → Hp → Prop) (h : tT K cl (orT f g) σ H Q) : tOr (tT K cl f) (tT K cl g) σ H Q := by
  obtain ⟨Φ, Hs, s, b, s', T, r, e, k⟩ := h
  unfold orT at e
  split at e
  · rename_i s1 q
    refine ⟨Φ, Hs, s, _, _, T, r, q, fun H1 Hs1 x1 r1 => ?_⟩
    refine iteF ?_
    exact ⟨Φ, Hs1, s1, b, s', T, r1, e, fun H2 Hs2 x2 r2 => k H2 Hs2 (x1.trans x2) r2⟩
  · rename_i hn
    refine ⟨Φ, Hs, s, b, s', T, r, e, fun H1 Hs1 x1 r1 => ?_⟩
    cases b with
    | false => exact absurd e (hn s')
    | true =>
      refine iteT ?_
      exact k H1 Hs1 x1 r1
theorem st_not {f : FT} (σ : L2.St) (H : Hp) (Q : Bool → Hp → Prop) (h : tT K cl (notT f) σ H Q) : tNot (tT K cl f) σ H Q := by
  obtain ⟨Φ, Hs, s, b, s', T, r, e, k⟩ := h
  unfold notT at e
  split at e
  · rename_i k' s1 q
    injection e with e
    injection e with e1 e2
    subst e1
    subst e2
    exact ⟨Φ, Hs, s, _, _, T, r, q, fun H1 Hs1 x1 r1 => k H1 Hs1 x1 r1⟩
  · cases e
theorem se_and {f g : FE} (σ : L2.St) (H : Hp) (Q : VK) (h : tE K cl (andE f g) σ H Q) : tAndV (tE K cl f) (tE K cl g) σ H Q := by
  obtain ⟨Φ, Hs, s, b, s', T, r, e, k⟩ := h
  unfold andE at e
  split at e
  · rename_i s1 q
    refine ⟨Φ, Hs, s, _, _, T, r, q, fun v H1 Hs1 x1 r1 h1 => ?_⟩
    have h1 : Rep Φ.C Hs1 v (.bl true) := h1
    cases h1
    refine ⟨true, rfl, ?_⟩
    refine iteT ?_
    exact ⟨Φ, Hs1, s1, b, s', T, r1, e, fun v2 H2 Hs2 x2 r2 h2 => k v2 H2 Hs2 (x1.trans x2) r2 h2⟩
  · rename_i s1 q
    injection e with e
    injection e with e1 e2
    subst e1
    subst e2
    refine ⟨Φ, Hs, s, _, _, T, r, q, fun v H1 Hs1 x1 r1 h1 => ?_⟩
    have h1 : Rep Φ.C Hs1 v (.bl false) := h1
    cases h1
    refine ⟨false, rfl, ?_⟩
    refine iteF ?_
    exact k _ H1 Hs1 x1 r1 (.bl false)
  · cases e
theorem se_or {f g : FE} (σ : L2.St) (H : Hp) (Q : VK) (h : tE K cl (orE f g) σ H Q) : tOrV (tE K cl f) (tE K cl g) σ H Q := by
  obtain ⟨Φ, Hs, s, b, s', T, r, e, k⟩ := h
  unfold orE at e
  split at e
  · rename_i s1 q
    refine ⟨Φ, Hs, s, _, _, T, r, q, fun v H1 Hs1 x1 r1 h1 => ?_⟩
    have h1 : Rep Φ.C Hs1 v (.bl false) := h1
    cases h1
    refine ⟨false, rfl, ?_⟩
    refine iteF ?_
    exact ⟨Φ, Hs1, s1, b, s', T, r1, e, fun v2 H2 Hs2 x2 r2 h2 => k v2 H2 Hs2 (x1.trans x2) r2 h2⟩
  · rename_i s1 q
    injection e with e
    injection e with e1 e2
    subst e1
    subst e2
    refine ⟨Φ, Hs, s, _, _, T, r, q, fun v H1 Hs1 x1 r1 h1 => ?_⟩
    have h1 : Rep Φ.C Hs1 v (.bl true) := h1
    cases h1
    refine ⟨true, rfl, ?_⟩
    refine iteT ?_
    exact k _ H1 Hs1 x1 r1 (.bl true)
  · cases e
theorem se_not {f : FE} (σ : L2.St) (H : Hp) (Q : VK) (h : tE K cl (notE f) σ H Q) : tNotV (tE K cl f) σ H Q := by
  obtain ⟨Φ, Hs, s, b, s', T, r, e, k⟩ := h
  unfold notE at e
  split at e
  · rename_i k' s1 q
    injection e with e
    injection e with e1 e2
    subst e1
    subst e2
    refine ⟨Φ, Hs, s, _, _, T, r, q, fun v H1 Hs1 x1 r1 h1 => ?_⟩
    have h1 : Rep Φ.C Hs1 v (.bl k') := h1
    cases h1
    exact ⟨k', rfl, k _ H1 Hs1 x1 r1 (.bl _)⟩
  · cases e
theorem se_if {c : FT} {f g : FE} (σ : L2.St) (H : Hp) (Q : VK) (h : tE K cl (ifE c f g) σ H Q) : tIf (tT K cl c) (tE K cl f) (tE K cl g) σ H Q := by
  obtain ⟨Φ, Hs, s, b, s', T, r, e, k⟩ := h
  unfold ifE at e
  split at e
  · rename_i s1 q
    refine ⟨Φ, Hs, s, _, _, T, r, q, fun H1 Hs1 x1 r1 => ?_⟩
    refine iteT ?_
    exact ⟨Φ, Hs1, s1, b, s', T, r1, e, fun v2 H2 Hs2 x2 r2 h2 => k v2 H2 Hs2 (x1.trans x2) r2 h2⟩
  · rename_i s1 q
    refine ⟨Φ, Hs, s, _, _, T, r, q, fun H1 Hs1 x1 r1 => ?_⟩
    refine iteF ?_
    exact ⟨Φ, Hs1, s1, b, s', T, r1, e, fun v2 H2 Hs2 x2 r2 h2 => k v2 H2 Hs2 (x1.trans x2) r2 h2⟩
  · cases e
end

/-! ### statements -/
/-- an outcome made lasting -/
def frozI (s : DS) (i : Nat) : Option (Option SV) → Option (D × DS)
  | some (some (.d x)) => some (x, s)
  | some (some (.own x)) => some (x, { s with ρ := s.ρ.set i (some (.d x)) })
  | _ => none
def froz (s : DS) : BV → Option (D × DS)
  | .st d => some (d, s)
  | .fr d => some (d, s)
  | .ow i => frozI s i s.ρ[i]?
def setV (i : Nat) (b : BV) (s : DS) : Option DS :=
  match b with
  | .fr x => some { s with ρ := s.ρ.set i (some (.own x)) }
  | b => match froz s b with
    | some (d, s1) => some { s1 with ρ := s1.ρ.set i (some (.d d)) }
    | none => none
def setS (i : Nat) (f : FE) : FS := fun s => match f s with
  | some (b, s1) => match setV i b s1 with
    | some s2 => some (.nx, s2)
    | none => none
  | none => none
def exprS (f : FE) : FS := fun s => match f s with
  | some (_, s1) => some (.nx, s1)
  | none => none
def leaveI (s : DS) (i : Nat) : Option (Option SV) → Option (BV × DS)
  | some (some (.d x)) => some (.st x, s)
  | some (some (.own x)) => some (.fr x, { s with ρ := s.ρ.set i none })
  | _ => none
def leave (s : DS) : BV → Option (BV × DS)
  | .ow i => leaveI s i s.ρ[i]?
  | b => some (b, s)
def retS (f : FE) : FS := fun s => match f s with
  | some (b, s1) => match leave s1 b with
    | some (b, s2) => some (.ret b, s2)
    | none => none
  | none => none
def nxS : FS := fun s => some (.nx, s)
def brkS : FS := fun s => some (.brk, s)
def cntS : FS := fun s => some (.cnt, s)
def noS : FS := fun _ => none
def seqS (f g : FS) : FS := fun s => match f s with
  | some (.nx, s1) => g s1
  | r => r
def ifS (c : FT) (f g : FS) : FS := fun s => match c s with
  | some (true, s1) => f s1
  | some (false, s1) => g s1
  | none => none
def whileS : Nat → FT → FS → FS
  | 0, _, _ => fun _ => none
  | n + 1, c, f => fun s => match c s with
    | some (false, s1) => some (.nx, s1)
    | some (true, s1) => match f s1 with
      | some (.nx, s2) => whileS n c f s2
      | some (.cnt, s2) => whileS n c f s2
      | some (.brk, s2) => some (.nx, s2)
      | r => r
    | none => none
def forS (g : FG) (f : FS) : List D → FS
  | [] => fun s => some (.nx, s)
  | d :: r => fun s => match g d s with
    | some s1 => match f s1 with
      | some (.nx, s2) => forS g f r s2
      | some (.cnt, s2) => forS g f r s2
      | some (.brk, s2) => some (.nx, s2)
      | r => r
    | none => none
def loopS (i : FI) (g : FG) (f : FS) : FS := fun s => match i s with
  | some (ds, s1) => forS g f ds s1
  | none => none
def nameG (i : Nat) : FG := fun d s => some { s with ρ := s.ρ.set i (some (.d d)) }
abbrev FGs := List D → DS → Option DS
def nilG : FGs := fun ds s => match ds with
  | [] => some s
  | _ => none
def consG (g : FG) (gs : FGs) : FGs := fun ds s => match ds with
  | d :: r => match g d s with
    | some s1 => gs r s1
    | none => none
  | [] => none
def tupG (n : Nat) (gs : FGs) : FG := fun d s => match d with
  | .tup ds => if ds.length = n then gs ds s else none
  | _ => none

section
variable {cl : Str → Option Addr} {K : PySem.W.Frag}
theorem froz_ok {Φ : Fx} {Hs H : Hp} {s s' : DS} {σ : L2.St} {v : V} {b : BV} {d : D} (r : Rs Φ Hs s σ H) (h : RB Φ Hs s σ H v b) (e : froz s b = some (d, s')) :
    ∃ Hs', Ex Hs Hs' ∧ Rs Φ Hs' s' σ H ∧ Rep Φ.C Hs' v d := by
  cases b with
  | st d' =>
    injection e with e
    injection e with e1 e2
    subst e1
    subst e2
    exact ⟨Hs, Ex.refl _, r, h⟩
  | fr d' =>
    injection e with e
    injection e with e1 e2
    subst e1
    subst e2
    obtain ⟨p, rfl, f⟩ := h
    exact r.freeze f
  | ow i =>
    obtain ⟨hv, x, hx⟩ := h
    have e : frozI s i s.ρ[i]? = some (d, s') := e
    rw [hx] at e
    injection e with e
    injection e with e1 e2
    subst e1
    subst e2
    obtain ⟨Hs', v', x1, r1, e1, h1⟩ := r.freezeOwn hx
    rw [hv] at e1
    injection e1 with e1
    injection e1 with e1
    subst e1
    exact ⟨Hs', x1, r1, h1⟩
theorem setV_ok {Φ : Fx} {Hs H : Hp} {s s' : DS} {σ : L2.St} {v : V} {b : BV} {i : Nat} (r : Rs Φ Hs s σ H) (h : RB Φ Hs s σ H v b) (e : setV i b s = some s') :
    ∃ Hs', Ex Hs Hs' ∧ Rs Φ Hs' s' (σ.set i (some v)) H := by
  have gen : ∀ b : BV, RB Φ Hs s σ H v b → (match froz s b with
    | some (d, s1) => some { s1 with ρ := s1.ρ.set i (some (.d d)) }
    | none => none) = some s' → ∃ Hs', Ex Hs Hs' ∧ Rs Φ Hs' s' (σ.set i (some v)) H := fun b h e => by
    cases q : froz s b with
    | none =>
      rw [q] at e
      cases e
    | some y =>
      obtain ⟨d, s1⟩ := y
      rw [q] at e
      injection e with e
      subst e
      obtain ⟨Hs', x1, r1, h1⟩ := froz_ok r h q
      exact ⟨Hs', x1, r1.put h1⟩
  cases b with
  | st d => exact gen _ h e
  | ow j => exact gen _ h e
  | fr x =>
    injection e with e
    subst e
    obtain ⟨p, rfl, f⟩ := h
    exact ⟨Hs, Ex.refl _, r.putOwn f⟩
theorem ss_set {i : Nat} {f : FE} (D : Ends) (σ : L2.St) (H : Hp) (h : tS K cl (setS i f) D σ H) : tAsg (tE K cl f) (gName i) D σ H := by
  obtain ⟨Φ, Hs, s, o, s', T, r, e, k⟩ := h
  unfold setS at e
  cases q : f s with
  | none =>
    rw [q] at e
    cases e
  | some y =>
    obtain ⟨b, s1⟩ := y
    rw [q] at e
    simp only at e
    cases q2 : setV i b s1 with
    | none =>
      rw [q2] at e
      cases e
    | some s2 =>
      rw [q2] at e
      injection e with e
      injection e with e1 e2
      subst e1
      subst e2
      refine ⟨Φ, Hs, s, b, s1, T, r, q, fun v H1 Hs1 x1 r1 h1 => ?_⟩
      obtain ⟨Hs2, x2, r2⟩ := setV_ok r1 h1 q2
      exact k _ _ _ (x1.trans x2) r2
theorem ss_expr {f : FE} (D : Ends) (σ : L2.St) (H : Hp) (h : tS K cl (exprS f) D σ H) : tDrop (tE K cl f) D σ H := by
  obtain ⟨Φ, Hs, s, o, s', T, r, e, k⟩ := h
  unfold exprS at e
  cases q : f s with
  | none =>
    rw [q] at e
    cases e
  | some y =>
    obtain ⟨b, s1⟩ := y
    rw [q] at e
    injection e with e
    injection e with e1 e2
    subst e1
    subst e2
    exact ⟨Φ, Hs, s, b, s1, T, r, q, fun v H1 Hs1 x1 r1 h1 => k σ H1 Hs1 x1 r1⟩
theorem leave_ok {Φ : Fx} {Hs H : Hp} {s s' : DS} {σ : L2.St} {v : V} {b b' : BV} (r : Rs Φ Hs s σ H) (h : RB Φ Hs s σ H v b) (e : leave s b = some (b', s')) : Rs Φ Hs s' σ H ∧ RB Φ Hs s' σ H v b' := by
  cases b with
  | st d =>
    injection e with e
    injection e with e1 e2
    subst e1
    subst e2
    exact ⟨r, h⟩
  | fr d =>
    injection e with e
    injection e with e1 e2
    subst e1
    subst e2
    exact ⟨r, h⟩
  | ow i =>
    obtain ⟨hv, x, hx⟩ := h
    have e : leaveI s i s.ρ[i]? = some (b', s') := e
    rw [hx] at e
    injection e with e
    injection e with e1 e2
    subst e1
    subst e2
    obtain ⟨p, h1, _⟩ := r.own i x hx
    rw [hv] at h1
    injection h1 with h1
    injection h1 with h1
    subst h1
    obtain ⟨r1, f1⟩ := r.take hx hv
    exact ⟨r1, p, rfl, f1⟩
theorem ss_ret {f : FE} (D : Ends) (σ : L2.St) (H : Hp) (h : tS K cl (retS f) D σ H) : tRet (tE K cl f) D σ H := by
  obtain ⟨Φ, Hs, s, o, s', T, r, e, k⟩ := h
  unfold retS at e
  cases q : f s with
  | none =>
    rw [q] at e
    cases e
  | some y =>
    obtain ⟨b, s1⟩ := y
    rw [q] at e
    simp only at e
    cases q2 : leave s1 b with
    | none =>
      rw [q2] at e
      cases e
    | some y =>
      obtain ⟨d, s2⟩ := y
      rw [q2] at e
      injection e with e
      injection e with e1 e2
      subst e1
      subst e2
      refine ⟨Φ, Hs, s, b, s1, T, r, q, fun v H1 Hs1 x1 r1 h1 => ?_⟩
      obtain ⟨r2, h2⟩ := leave_ok r1 h1 q2
      exact k σ H1 Hs1 x1 r2 v h2
theorem ss_nx (D : Ends) (σ : L2.St) (H : Hp) (h : tS K cl nxS D σ H) : tNext D σ H := by
  obtain ⟨Φ, Hs, s, o, s', T, r, e, k⟩ := h
  injection e with e
  injection e with e1 e2
  subst e1
  subst e2
  exact k σ H Hs (Ex.refl _) r
theorem ss_brk (D : Ends) (σ : L2.St) (H : Hp) (h : tS K cl brkS D σ H) : tBreak D σ H := by
  obtain ⟨Φ, Hs, s, o, s', T, r, e, k⟩ := h
  injection e with e
  injection e with e1 e2
  subst e1
  subst e2
  exact k σ H Hs (Ex.refl _) r
theorem ss_cnt (D : Ends) (σ : L2.St) (H : Hp) (h : tS K cl cntS D σ H) : tCont D σ H := by
  obtain ⟨Φ, Hs, s, o, s', T, r, e, k⟩ := h
  injection e with e
  injection e with e1 e2
  subst e1
  subst e2
  exact k σ H Hs (Ex.refl _) r
theorem ss_no (D : Ends) (σ : L2.St) (H : Hp) (h : tS K cl noS D σ H) : tNever D σ H := by
  obtain ⟨Φ, Hs, s, o, s', T, r, e, k⟩ := h
  cases e
theorem ss_seq {f g : FS} (D : Ends) (σ : L2.St) (H : Hp) (h : tS K cl (seqS f g) D σ H) : tSeq (tS K cl f) (tS K cl g) D σ H := by
  obtain ⟨Φ, Hs, s, o, s', T, r, e, k⟩ := h
  unfold seqS at e
  split at e
  · rename_i s1 q
    refine ⟨Φ, Hs, s, .nx, s1, T, r, q, fun σ1 H1 Hs1 x1 r1 => ?_⟩
    exact ⟨Φ, Hs1, s1, o, s', T, r1, e, fun σ2 H2 Hs2 x2 r2 => k σ2 H2 Hs2 (x1.trans x2) r2⟩
  · rename_i hn
    refine ⟨Φ, Hs, s, o, s', T, r, e, fun σ1 H1 Hs1 x1 r1 => ?_⟩
    have z := k σ1 H1 Hs1 x1 r1
    cases o with
    | nx => exact absurd e (hn s')
    | brk => exact z
    | cnt => exact z
    | ret d => exact z
theorem ss_if {c : FT} {f g : FS} (D : Ends) (σ : L2.St) (H : Hp) (h : tS K cl (ifS c f g) D σ H) : tIfS (tT K cl c) (tS K cl f) (tS K cl g) D σ H := by
  obtain ⟨Φ, Hs, s, o, s', T, r, e, k⟩ := h
  unfold ifS at e
  split at e
  · rename_i s1 q
    refine ⟨Φ, Hs, s, _, _, T, r, q, fun H1 Hs1 x1 r1 => ?_⟩
    refine iteT ?_
    exact ⟨Φ, Hs1, s1, o, s', T, r1, e, fun σ2 H2 Hs2 x2 r2 => k σ2 H2 Hs2 (x1.trans x2) r2⟩
  · rename_i s1 q
    refine ⟨Φ, Hs, s, _, _, T, r, q, fun H1 Hs1 x1 r1 => ?_⟩
    refine iteF ?_
    exact ⟨Φ, Hs1, s1, o, s', T, r1, e, fun σ2 H2 Hs2 x2 r2 => k σ2 H2 Hs2 (x1.trans x2) r2⟩
  · cases e
theorem ss_while {n : Nat} {c : FT} {f : FS} (D : Ends) (σ : L2.St) (H : Hp) (h : tS K cl (whileS n c f) D σ H) : tWhile (tT K cl c) (tS K cl f) D σ H := by
  obtain ⟨Φ, Hs, s, o, s', T, r, e, k⟩ := h
  refine ⟨fun m σ1 H1 => ∃ Hs1 s1, Ex Hs Hs1 ∧ Rs Φ Hs1 s1 σ1 H1 ∧ whileS m c f s1 = some (o, s'), ⟨n, Hs, s, Ex.refl _, r, e⟩, fun m σ1 H1 hW => ?_⟩
  obtain ⟨Hs1, s1, x1, r1, e1⟩ := hW
  cases m with
  | zero => cases e1
  | succ m =>
    unfold whileS at e1
    split at e1
    · rename_i s2 q
      injection e1 with e1
      injection e1 with e2 e3
      subst e2
      subst e3
      refine ⟨Φ, Hs1, s1, _, _, T, r1, q, fun H2 Hs2 x2 r2 => ?_⟩
      refine iteF ?_
      exact k σ1 H2 Hs2 (x1.trans x2) r2
    · rename_i s2 q
      refine ⟨Φ, Hs1, s1, _, _, T, r1, q, fun H2 Hs2 x2 r2 => ?_⟩
      refine iteT ?_
      refine ⟨fun σ3 H3 => ∃ Hs3 s3, Ex Hs Hs3 ∧ Rs Φ Hs3 s3 σ3 H3 ∧ whileS m c f s3 = some (o, s'), fun σ3 H3 hN => ?_, ?_⟩
      · obtain ⟨Hs3, s3, x3, r3, e3⟩ := hN
        exact ⟨m, Nat.lt_succ_self m, Hs3, s3, x3, r3, e3⟩
      · split at e1
        · rename_i s3 q3
          exact ⟨Φ, Hs2, s2, .nx, s3, T, r2, q3, fun σ4 H4 Hs4 x4 r4 => ⟨Hs4, s3, x1.trans (x2.trans x4), r4, e1⟩⟩
        · rename_i s3 q3
          exact ⟨Φ, Hs2, s2, .cnt, s3, T, r2, q3, fun σ4 H4 Hs4 x4 r4 => ⟨Hs4, s3, x1.trans (x2.trans x4), r4, e1⟩⟩
        · rename_i s3 q3
          injection e1 with e1
          injection e1 with e4 e5
          subst e4
          subst e5
          exact ⟨Φ, Hs2, s2, .brk, s3, T, r2, q3, fun σ4 H4 Hs4 x4 r4 => k σ4 H4 Hs4 (x1.trans (x2.trans x4)) r4⟩
        · rename_i h1 h2 h3
          cases o with
          | nx => exact absurd e1 (h1 s')
          | cnt => exact absurd e1 (h2 s')
          | brk => exact absurd e1 (h3 s')
          | ret d => exact ⟨Φ, Hs2, s2, .ret d, s', T, r2, e1, fun σ4 H4 Hs4 x4 r4 => k σ4 H4 Hs4 (x1.trans (x2.trans x4)) r4⟩
    · cases e1
/-! ### targets -/
theorem Off.refl (ix : List Nat) (σ : L2.St) : Off ix σ σ := ⟨rfl, fun _ _ => rfl⟩
theorem Off.trans {ix iy : List Nat} {σ σ1 σ2 : L2.St} (a : Off ix σ σ1) (b : Off iy σ1 σ2) : Off (ix ++ iy) σ σ2 := ⟨b.1.trans a.1, fun i h => by
  rw [List.mem_append] at h
  rw [b.2 i (fun z => h (.inr z)), a.2 i (fun z => h (.inl z))]⟩
theorem off_set (i : Nat) (v : Option V) (σ : L2.St) : Off [i] σ (σ.set i v) := ⟨List.length_set, fun j h => List.getElem?_set_ne (fun z => h (by rw [z]; exact List.mem_singleton.mpr rfl))⟩
theorem sg_name (i : Nat) (v : V) (σ : L2.St) (H : Hp) (Q : L2.St → Hp → Prop) (h : tG K cl [i] (nameG i) v σ H Q) : gName i v σ H Q := by
  obtain ⟨Φ, Hs, s, d, s', T, r, hv, e, k⟩ := h
  injection e with e
  subst e
  exact k _ H Hs (Ex.refl _) (r.put hv) (off_set i _ σ)
def tGs (K : PySem.W.Frag) (cl : Str → Option Addr) (ix : List Nat) (f : FGs) : TGs := fun vs σ H Q => ∃ Φ Hs s ds s', Tie K cl Φ ∧ Rs Φ Hs s σ H ∧ Reps Φ.C Hs vs ds ∧ f ds s = some s' ∧ ∀ σ' H' Hs', Ex Hs Hs' → Rs Φ Hs' s' σ' H' → Off ix σ σ' → Q σ' H'
theorem sg_nil (vs : List V) (σ : L2.St) (H : Hp) (Q : L2.St → Hp → Prop) (h : tGs K cl [] nilG vs σ H Q) : gNil vs σ H Q := by
  obtain ⟨Φ, Hs, s, d, s', T, r, hv, e, k⟩ := h
  unfold nilG at e
  split at e
  · cases hv
    injection e with e
    subst e
    exact ⟨rfl, k σ H Hs (Ex.refl _) r (Off.refl _ _)⟩
  · cases e
theorem sg_cons {ix iy : List Nat} {g : FG} {gs : FGs} (vs : List V) (σ : L2.St) (H : Hp) (Q : L2.St → Hp → Prop) (h : tGs K cl (ix ++ iy) (consG g gs) vs σ H Q) : gCons (tG K cl ix g) (tGs K cl iy gs) vs σ H Q := by
  obtain ⟨Φ, Hs, s, d, s', T, r, hv, e, k⟩ := h
  unfold consG at e
  split at e
  · rename_i d0 dr
    cases hv with
    | cons h1 h2 =>
      cases q : g d0 s with
      | none =>
        rw [q] at e
        cases e
      | some s1 =>
        rw [q] at e
        refine ⟨_, _, rfl, Φ, Hs, s, d0, s1, T, r, h1, q, fun σ1 H1 Hs1 x1 r1 o1 => ?_⟩
        exact ⟨Φ, Hs1, s1, dr, s', T, r1, h2.mono x1, e, fun σ2 H2 Hs2 x2 r2 o2 => k σ2 H2 Hs2 (x1.trans x2) r2 (o1.trans o2)⟩
  · cases e
theorem sg_tup {ix : List Nat} {n : Nat} {gs : FGs} (v : V) (σ : L2.St) (H : Hp) (Q : L2.St → Hp → Prop) (h : tG K cl ix (tupG n gs) v σ H Q) : gTup K n (tGs K cl ix gs) v σ H Q := by
  obtain ⟨Φ, Hs, s, d, s', T, r, hv, e, k⟩ := h
  unfold tupG at e
  split at e
  · rename_i ds
    cases hv with
    | tup hS hr =>
      split at e
      · rename_i hn
        have hS' := ex_t r.ex hS
        rw [T.k] at hS'
        exact ⟨_, _, rfl, hS', hr.length.trans hn, Φ, Hs, s, ds, s', T, r, hr, e, k⟩
      · cases e
  · cases e
/-! ### for -/
theorem Rs.yield {Φ : Fx} {Hs H H' : Hp} {s : DS} {σ : L2.St} {ds : List D} {i : Nat} {x : V} {d : D} (r : Rs Φ Hs s σ H) {Hs0 : Hp} (x0 : Ex Hs0 Hs) (y : YD Φ.C Hs0 ds i H x H') (hd : ds[i]? = some d) : ∃ Hs', Ex Hs Hs' ∧ Rs Φ Hs' s σ H' ∧ Rep Φ.C Hs' x d := by
  obtain ⟨d', e, y⟩ := y
  rw [hd] at e
  injection e with e
  subst e
  rcases y with ⟨rfl, h⟩ | ⟨T, o, hT, rfl, h⟩
  · exact ⟨Hs, Ex.refl _, r, h.mono x0⟩
  · exact ⟨upd Hs T o, Ex.new (r.free hT).1, r.laidS hT o, h Hs x0 (r.free hT).1⟩
theorem ss_for {ix : List Nat} {i : FI} {g : FG} {f : FS} (D : Ends) (σ : L2.St) (H : Hp) (h : tS K cl (loopS i g f) D σ H) : tFor (tI K cl i) (tG K cl ix g) (tS K cl f) D σ H := by
  obtain ⟨Φ, Hs, s, o, s', T, r, e, k⟩ := h
  unfold loopS at e
  cases q : i s with
  | none =>
    rw [q] at e
    cases e
  | some y =>
    obtain ⟨ds, s1⟩ := y
    rw [q] at e
    have e : forS g f ds s1 = some (o, s') := e
    refine ⟨Φ, Hs, s, ds, s1, T, r, q, fun J H1 Hs1 x1 r1 w => ?_⟩
    refine for_it w (fun i σ2 H2 => (∃ Hs2 s2, Ex Hs1 Hs2 ∧ Rs Φ Hs2 s2 σ2 H2 ∧ forS g f (ds.drop i) s2 = some (o, s'))) ⟨Hs1, s1, Ex.refl _, r1, e⟩ ?_ ?_ ?_
    · rintro i σ2 H2 _ ⟨Hs2, s2, x2, r2, _⟩
      exact x2.trans r2.ex
    · rintro i x σ2 H2 H3 hi ⟨Hs2, s2, x2, r2, e2⟩ y
      obtain ⟨d, hd, _⟩ := id y
      obtain ⟨Hs3, x3, r3, h3⟩ := r2.yield x2 y hd
      have hdrop : ds.drop i = d :: ds.drop (i + 1) := by
        obtain ⟨hl, he⟩ := List.getElem?_eq_some_iff.mp hd
        rw [List.drop_eq_getElem_cons hl, he]
      rw [hdrop] at e2
      unfold forS at e2
      cases q2 : g d s2 with
      | none =>
        rw [q2] at e2
        cases e2
      | some s3 =>
        rw [q2] at e2
        simp only at e2
        refine ⟨Φ, Hs3, s2, d, s3, T, r3, h3, q2, fun σ4 H4 Hs4 x4 r4 _ => ?_⟩
        have x14 : Ex Hs1 Hs4 := x2.trans (x3.trans x4)
        split at e2
        · rename_i s4 q3
          exact ⟨Φ, Hs4, s3, .nx, s4, T, r4, q3, fun σ5 H5 Hs5 x5 r5 => ⟨Hs5, s4, x14.trans x5, r5, e2⟩⟩
        · rename_i s4 q3
          exact ⟨Φ, Hs4, s3, .cnt, s4, T, r4, q3, fun σ5 H5 Hs5 x5 r5 => ⟨Hs5, s4, x14.trans x5, r5, e2⟩⟩
        · rename_i s4 q3
          injection e2 with e2
          injection e2 with e4 e5
          subst e4
          subst e5
          exact ⟨Φ, Hs4, s3, .brk, s4, T, r4, q3, fun σ5 H5 Hs5 x5 r5 => k σ5 H5 Hs5 (x1.trans (x14.trans x5)) r5⟩
        · rename_i h1 h2 h3
          cases o with
          | nx => exact absurd e2 (h1 s')
          | cnt => exact absurd e2 (h2 s')
          | brk => exact absurd e2 (h3 s')
          | ret d => exact ⟨Φ, Hs4, s3, .ret d, s', T, r4, e2, fun σ5 H5 Hs5 x5 r5 => k σ5 H5 Hs5 (x1.trans (x14.trans x5)) r5⟩
    · rintro σ2 H2 ⟨Hs2, s2, x2, r2, e2⟩
      rw [List.drop_length] at e2
      injection e2 with e2
      injection e2 with e3 e4
      subst e3
      subst e4
      exact k σ2 H2 Hs2 (x1.trans x2) r2
end
end DL


set_option Elab.async false
set_option linter.all false
set_option maxRecDepth 100000
set_option maxHeartbeats 2000000
/-! THE DATA LAYER, part 5: comprehensions, calls of defs, a def by its body -/
namespace DL
open PySem PySem.Spec PyProof.Rows L2

/-! ### list comprehensions -/
def wipeD (ρ : List (Option SV)) : List Nat → List (Option SV)
  | [] => ρ
  | v :: vs => (wipeD ρ vs).set v none
def DS.wipe (s : DS) (vs : List Nat) : DS := { s with ρ := wipeD s.ρ vs }
theorem wipeD_length (ρ : List (Option SV)) : ∀ vs : List Nat, (wipeD ρ vs).length = ρ.length
  | [] => rfl
  | v :: vs => by
    show ((wipeD ρ vs).set v none).length = _
    rw [List.length_set, wipeD_length ρ vs]
theorem wipeD_some {ρ : List (Option SV)} {i : Nat} {x : SV} : ∀ {vs : List Nat}, (wipeD ρ vs)[i]? = some (some x) → ρ[i]? = some (some x) ∧ i ∉ vs
  | [], h => ⟨h, by simp⟩
  | v :: vs, h => by
    have h : ((wipeD ρ vs).set v none)[i]? = some (some x) := h
    by_cases z : v = i
    · subst z
      by_cases hl : v < (wipeD ρ vs).length
      · rw [List.getElem?_set_self hl] at h
        cases h
      · rw [List.getElem?_eq_none_iff.mpr (by rw [List.length_set]; omega)] at h
        cases h
    · rw [List.getElem?_set_ne z] at h
      obtain ⟨h1, h2⟩ := wipeD_some h
      refine ⟨h1, fun w => ?_⟩
      rcases List.mem_cons.mp w with w | w
      · exact z w.symm
      · exact h2 w
theorem wipe_off {vs ix : List Nat} {σ σ' : L2.St} (h : Off ix (wipe σ vs) σ') (hi : ∀ i ∈ ix, i ∈ vs) : wipe σ' vs = wipe σ vs := by
  apply List.ext_getElem?
  intro i
  have key : ∀ (τ : L2.St) (ws : List Nat), τ.length = σ.length → (∀ j, j ∉ vs → τ[j]? = σ[j]?) → (∀ j ∈ ws, j ∈ vs) → ∀ i, (i ∈ ws → (wipe τ ws)[i]? = (wipe σ ws)[i]?) ∧ (i ∉ vs → (wipe τ ws)[i]? = σ[i]?) := by
    intro τ ws hl h0
    induction ws with
    | nil => exact fun _ i => ⟨fun z => (nomatch z), fun z => h0 i z⟩
    | cons v ws ih =>
      intro hw i
      have ih := ih (fun j z => hw j (List.mem_cons_of_mem _ z))
      have hlen : (wipe τ ws).length = (wipe σ ws).length := by rw [wipe_length, wipe_length, hl]
      constructor
      · intro z
        show ((wipe τ ws).set v none)[i]? = ((wipe σ ws).set v none)[i]?
        by_cases q : v = i
        · subst q
          by_cases hb : v < (wipe τ ws).length
          · rw [List.getElem?_set_self hb, List.getElem?_set_self (by omega)]
          · rw [List.getElem?_eq_none_iff.mpr (by rw [List.length_set]; omega), List.getElem?_eq_none_iff.mpr (by rw [List.length_set]; omega)]
        · rw [List.getElem?_set_ne q, List.getElem?_set_ne q]
          rcases List.mem_cons.mp z with z | z
          · exact absurd z.symm q
          · exact (ih i).1 z
      · intro z
        show ((wipe τ ws).set v none)[i]? = _
        have q : v ≠ i := fun q => z (by rw [← q]; exact hw v List.mem_cons_self)
        rw [List.getElem?_set_ne q]
        exact (ih i).2 z
  have hl' : σ'.length = σ.length := by rw [h.1, wipe_length]
  have h0' : ∀ j, j ∉ vs → σ'[j]? = σ[j]? := fun j z => by
    rw [h.2 j (fun w => z (hi j w)), wipe_out z]
  by_cases z : i ∈ vs
  · exact (key σ' vs hl' h0' (fun _ w => w) i).1 z
  · rw [(key σ' vs hl' h0' (fun _ w => w) i).2 z, (key σ vs rfl (fun _ _ => rfl) (fun _ w => w) i).2 z]
section
variable {Φ : Fx} {Hs Hs' H H' : Hp} {s s' : DS} {σ σ2 : L2.St}
theorem Rs.wiped (r : Rs Φ Hs s σ H) (vs : List Nat) : Rs Φ Hs (s.wipe vs) (L2.wipe σ vs) H :=
  r.forget (by rw [wipeD_length, wipe_length, r.len]) fun i y e => by
    obtain ⟨h1, h2⟩ := wipeD_some e
    exact ⟨h1, wipe_out h2⟩
theorem Rs.back {vs : List Nat} (r : Rs Φ Hs s σ2 H) (e : L2.wipe σ2 vs = L2.wipe σ vs) (hl : σ2.length = σ.length) : Rs Φ Hs (s.wipe vs) σ H :=
  r.forget (by rw [wipeD_length, r.len, hl]) fun i y q => by
    obtain ⟨h1, h2⟩ := wipeD_some q
    refine ⟨h1, ?_⟩
    rw [← wipe_out (σ := σ) h2, ← e, wipe_out h2]
end
/-- the turns: what is made so far, the items to come -/
def lcL (vs : List Nat) (g : FG) (c : FT) (f : FE) : List D → List D → DS → Option (List D × DS)
  | acc, [], s => some (acc, s)
  | acc, d :: r, s => match g d (s.wipe vs) with
    | some s1 => match c s1 with
      | some (true, s2) => match f s2 with
        | some (b, s3) => match froz s3 b with
          | some (x, s4) => if acc.length < lineN then lcL vs g c f (acc ++ [x]) r s4 else none
          | none => none
        | none => none
      | some (false, s2) => lcL vs g c f acc r s2
      | none => none
    | none => none
def yesT : FT := fun s => some (true, s)
def lcE (vs : List Nat) (i : FI) (g : FG) (c : FT) (f : FE) : FE := fun s => match i s with
  | some (ds, s1) => match lcL vs g c f [] ds s1 with
    | some (xs, s2) => some (.fr (.lst xs), s2.wipe vs)
    | none => none
  | none => none
section
variable {cl : Str → Option Addr} {K : PySem.W.Frag}
theorem st_yes (σ : L2.St) (H : Hp) (Q : Bool → Hp → Prop) (h : tT K cl yesT σ H Q) : tYes σ H Q := by
  obtain ⟨Φ, Hs, s, b, s', T, r, e, k⟩ := h
  injection e with e
  injection e with e1 e2
  subst e1
  subst e2
  exact k H Hs (Ex.refl _) r
theorem Tie.pin {Φ : Fx} {a : Addr} {o : HO} (T : Tie K cl Φ) : Tie K cl (Φ.pin a o) := ⟨T.k, T.c⟩
theorem se_lc {vs ix : List Nat} {i : FI} {g : FG} {c : FT} {f : FE} (hix : ∀ j ∈ ix, j ∈ vs) (σ : L2.St) (H : Hp) (Q : VK) (h : tE K cl (lcE vs i g c f) σ H Q) :
    tLc (tI K cl i) (tG K cl ix g) (tT K cl c) (tE K cl f) vs σ H Q := by
  obtain ⟨Φ, Hs, s, b, s', T, r, e, k⟩ := h
  unfold lcE at e
  cases q : i s with
  | none =>
    rw [q] at e
    cases e
  | some y =>
    obtain ⟨ds, s1⟩ := y
    rw [q] at e
    simp only at e
    cases q2 : lcL vs g c f [] ds s1 with
    | none =>
      rw [q2] at e
      cases e
    | some y =>
      obtain ⟨xs, s2⟩ := y
      rw [q2] at e
      injection e with e
      injection e with e1 e2
      subst e1
      subst e2
      refine ⟨Φ, Hs, s, ds, s1, T, r, q, fun J H1 Hs1 x1 r1 w => fun Dl hD => ?_⟩
      obtain ⟨d1, d2, d3⟩ := r1.free hD
      have rp0 : Rs (Φ.pin Dl (.lst [])) Hs1 s1 σ (upd H1 Dl (.lst [])) := (r1.laid hD _).pin d1 (fun i y e z => by
        obtain ⟨p, e1, e2, e3, e4, e5⟩ := r1.own i y e
        obtain ⟨o, eo⟩ := e5.there
        have zz : p = Dl := by
          have := e1.symm.trans z
          injection this with this
          injection this with this
          injection this
        subst zz
        rw [hD] at eo
        cases eo) upd_same
      refine lc_it w (fun i H2 => ∃ (Hs2 : Hp) (s3 : DS) (σ3 : L2.St) (acc : List V) (ds' : List D), Ex Hs1 Hs2 ∧ Hs2 Dl = none ∧ σ3.length = σ.length ∧ L2.wipe σ3 vs = L2.wipe σ vs ∧ Rs (Φ.pin Dl (.lst acc)) Hs2 s3 σ3 H2 ∧ Reps Φ.C Hs2 acc ds' ∧ lcL vs g c f ds' (ds.drop i) s3 = some (xs, s2))
        ⟨Hs1, s1, σ, [], [], Ex.refl _, d1, rfl, rfl, rp0, .nil, q2⟩ ?_ ?_ ?_
      · rintro i H2 _ ⟨Hs2, s3, σ3, acc, ds', x2, _, _, _, r2, _⟩
        exact x2.trans r2.ex
      · rintro i x H2 H3 hi ⟨Hs2, s3, σ3, acc, ds', x2, n2, hl3, hw3, r2, ha, e2⟩ y
        obtain ⟨d, hd, _⟩ := id y
        have hdrop : ds.drop i = d :: ds.drop (i + 1) := by
          obtain ⟨hl, he⟩ := List.getElem?_eq_some_iff.mp hd
          rw [List.drop_eq_getElem_cons hl, he]
        rw [hdrop] at e2
        unfold lcL at e2
        have y' : YD (Φ.pin Dl (.lst acc)).C Hs1 ds i H2 x H3 := y
        obtain ⟨Hs3, x3, r3, h3⟩ := r2.yield x2 y' hd
        have n3 : Hs3 Dl = none := (r3.fs Dl (.lst acc) upd_same).trans (by
          have z := r2.fs Dl (.lst acc) upd_same
          rw [n2] at z
          exact z.symm)
        have rw3 := r3.wiped vs
        rw [hw3] at rw3
        cases q3 : g d (s3.wipe vs) with
        | none =>
          rw [q3] at e2
          cases e2
        | some s4 =>
          rw [q3] at e2
          simp only at e2
          refine ⟨Φ.pin Dl (.lst acc), Hs3, s3.wipe vs, d, s4, T.pin, rw3, h3, q3, fun σ4 H4 Hs4 x4 r4 o4 => ?_⟩
          have hw4 : L2.wipe σ4 vs = L2.wipe σ vs := wipe_off o4 hix
          have hl4 : σ4.length = σ.length := by
            rw [o4.1, wipe_length]
          refine ⟨hw4, ?_⟩
          have n4 : Hs4 Dl = none := (r4.fs Dl (.lst acc) upd_same).trans (by
            have z := r2.fs Dl (.lst acc) upd_same
            rw [n2] at z
            exact z.symm)
          split at e2
          · rename_i s5 q5
            refine ⟨Φ.pin Dl (.lst acc), Hs4, s4, true, s5, T.pin, r4, q5, fun H5 Hs5 x5 r5 => ?_⟩
            refine iteT ?_
            cases q6 : f s5 with
            | none =>
              rw [q6] at e2
              cases e2
            | some y =>
              obtain ⟨b, s6⟩ := y
              rw [q6] at e2
              simp only at e2
              cases q7 : froz s6 b with
              | none =>
                rw [q7] at e2
                cases e2
              | some y =>
                obtain ⟨xd, s7⟩ := y
                rw [q7] at e2
                simp only at e2
                by_cases hsz : ds'.length < lineN
                · rw [if_pos hsz] at e2
                  refine ⟨Φ.pin Dl (.lst acc), Hs5, s5, b, s6, T.pin, r5, q6, fun v H6 Hs6 x6 r6 h6 => ?_⟩
                  obtain ⟨Hs7, x7, r7, h7⟩ := froz_ok r6 h6 q7
                  have n7 : Hs7 Dl = none := (r7.fs Dl (.lst acc) upd_same).trans (by
                    have z := r2.fs Dl (.lst acc) upd_same
                    rw [n2] at z
                    exact z.symm)
                  have x27 : Ex Hs2 Hs7 := x3.trans (x4.trans (x5.trans (x6.trans x7)))
                  have ha7 := ha.mono x27
                  refine ⟨acc, (r7.pinned d3).1, ?_, Hs7, s7, σ4, acc ++ [v], ds' ++ [xd], x2.trans x27, n7, hl4, hw4, r7.repin d3 d2 n7, ha7.append (.one h7), e2⟩
                  rw [line_eq, ha.length]
                  exact hsz
                · rw [if_neg hsz] at e2
                  cases e2
          · rename_i s5 q5
            refine ⟨Φ.pin Dl (.lst acc), Hs4, s4, false, s5, T.pin, r4, q5, fun H5 Hs5 x5 r5 => ?_⟩
            refine iteF ?_
            have n5 : Hs5 Dl = none := (r5.fs Dl (.lst acc) upd_same).trans (by
              have z := r2.fs Dl (.lst acc) upd_same
              rw [n2] at z
              exact z.symm)
            have x25 : Ex Hs2 Hs5 := x3.trans (x4.trans x5)
            exact ⟨Hs5, s5, σ4, acc, ds', x2.trans x25, n5, hl4, hw4, r5, ha.mono x25, e2⟩
          · cases e2
      · rintro H2 ⟨Hs2, s3, σ3, acc, ds', x2, n2, hl3, hw3, r2, ha, e2⟩
        rw [List.drop_length] at e2
        injection e2 with e2
        injection e2 with e3 e4
        subst e3
        subst e4
        obtain ⟨h1, h2⟩ := r2.pinned d3
        have r3 := r2.unpin d3 d2
        have r4 := r3.back hw3 hl3
        refine k _ H2 Hs2 (x1.trans x2) r4 ⟨Dl, rfl, n2, d2, d3, fun i y e z => ?_, acc, h1, ha⟩
        have e' : (wipeD s3.ρ vs)[i]? = some (some (.own y)) := e
        obtain ⟨h3, h4⟩ := wipeD_some e'
        refine h2 i y h3 ?_
        rw [← wipe_out (σ := σ3) h4, hw3, wipe_out h4]
        exact z
end

/-! ### calls of defs -/
abbrev Den := List D → G → Option (BV × G)
/-- what a def gives back: b told at the caller's -/
def RetC (C : Ctx) (H Hs' H' : Hp) (v : V) : BV → Prop
  | .st d => Rep C Hs' v d
  | .fr x => ∃ p, v = .ref p ∧ Hs' p = none ∧ H p = none ∧ some p ≠ C.dl ∧ OwnAt C Hs' H' p x
  | .ow _ => False
def SpD (K : PySem.W.Frag) (cl : Str → Option Addr) (n : Nat) (den : Den) : Sp := fun vs H Q _ => ∃ (C : Ctx) (g : G) (ds : List D) (Hs : Hp) (b : BV) (g' : G), C.K = K ∧ C.cls = cl ∧ Ex Hs H ∧ DiceAt C.dl g Hs H ∧ Reps C Hs vs ds ∧ vs.length = n ∧ den ds g = some (b, g') ∧
  ∀ v H' Hs', Ex Hs Hs' → Ex Hs' H' → (∀ a o, some a ≠ C.dl → H a = some o → H' a = some o) → (∀ a o, H a = some o → Hs' a = Hs a) → DiceAt C.dl g' Hs' H' → RetC C H Hs' H' v b → Q v H'
def frozs : List BV → DS → Option DS
  | [], s => some s
  | b :: r, s => match froz s b with
    | some (_, s1) => frozs r s1
    | none => none
def isSc : BV → Bool
  | .st .non => true
  | .st (.bl _) => true
  | .st (.int _) => true
  | .st (.str _) => true
  | _ => false
def callE (n : Nat) (den : Den) (f : FA) : FE := fun s => match f s with
  | some (bs, s1) => if bs.length = n then (match conts s1 bs with
    | some ds => match den ds s1.g with
      | some (b, g') => if isSc b then some (b, { s1 with g := g' }) else match b with
        | .ow _ => none
        | b => match frozs bs s1 with
          | some s2 => some (b, { s2 with g := g' })
          | none => none
      | none => none
    | none => none) else none
  | none => none
section
variable {Φ : Fx} {Hs Hs' H H' : Hp} {s s' : DS} {σ : L2.St}
theorem RBs.length {vs : List V} {bs : List BV} (h : RBs Φ Hs σ vs bs) : vs.length = bs.length := by
  induction h with
  | nil => rfl
  | st _ _ ih => rw [List.length_cons, List.length_cons, ih]
  | ow _ _ ih => rw [List.length_cons, List.length_cons, ih]
/-- all arguments made lasting: the data are those read before -/
theorem frozs_ok : ∀ {vs : List V} {bs : List BV} {ds : List D} {Hs : Hp} {s s' : DS}, Rs Φ Hs s σ H → RBs Φ Hs σ vs bs → conts s bs = some ds → frozs bs s = some s' →
    ∃ Hs', Ex Hs Hs' ∧ Rs Φ Hs' s' σ H ∧ Reps Φ.C Hs' vs ds ∧ s'.g = s.g := by
  intro vs bs
  induction bs generalizing vs with
  | nil =>
    intro ds Hs s s' r h c e
    cases h
    injection c with c
    subst c
    injection e with e
    subst e
    exact ⟨Hs, Ex.refl _, r, .nil, rfl⟩
  | cons b bs ih =>
    intro ds Hs s s' r h c e
    unfold frozs at e
    unfold conts at c
    cases q1 : froz s b with
    | none =>
      rw [q1] at e
      cases e
    | some y =>
      obtain ⟨d1, s1⟩ := y
      rw [q1] at e
      simp only at e
      cases q2 : cont s b with
      | none =>
        rw [q2] at c
        cases c
      | some d =>
        rw [q2] at c
        simp only at c
        cases q3 : conts s bs with
        | none =>
          rw [q3] at c
          cases c
        | some dr =>
          rw [q3] at c
          injection c with c
          subst c
          -- the contents do not change by a freezing
          have keep : ∀ bl : List BV, conts s1 bl = conts s bl := by
            have one : ∀ b' : BV, cont s1 b' = cont s b' := by
              intro b'
              cases b with
              | st d0 =>
                injection q1 with q1
                injection q1 with _ q1
                rw [q1]
              | fr d0 =>
                injection q1 with q1
                injection q1 with _ q1
                rw [q1]
              | ow i =>
                have q1 : frozI s i s.ρ[i]? = some (d1, s1) := q1
                cases b' with
                | st d0 => rfl
                | fr d0 => rfl
                | ow j =>
                  show slotC s1.ρ[j]? = slotC s.ρ[j]?
                  match e0 : s.ρ[i]?, q1 with
                  | some (some (.d x)), q1 =>
                    injection q1 with q1
                    injection q1 with _ q1
                    rw [q1]
                  | some (some (.own x)), q1 =>
                    injection q1 with q1
                    injection q1 with _ q1
                    rw [← q1]
                    show slotC (s.ρ.set i (some (.d x)))[j]? = _
                    by_cases z : i = j
                    · subst z
                      rw [List.getElem?_set_self (List.getElem?_eq_some_iff.mp e0).1, e0]
                      rfl
                    · rw [List.getElem?_set_ne z]
                  | some none, q1 => cases q1
                  | none, q1 => cases q1
            intro bl
            induction bl with
            | nil => rfl
            | cons b0 bl ih0 =>
              unfold conts
              rw [one b0, ih0]
          have gk : s1.g = s.g := by
            cases b with
            | st d0 =>
              injection q1 with q1
              injection q1 with _ q1
              rw [q1]
            | fr d0 =>
              injection q1 with q1
              injection q1 with _ q1
              rw [q1]
            | ow i =>
              have q1 : frozI s i s.ρ[i]? = some (d1, s1) := q1
              match e0 : s.ρ[i]?, q1 with
              | some (some (.d x)), q1 =>
                injection q1 with q1
                injection q1 with _ q1
                rw [q1]
              | some (some (.own x)), q1 =>
                injection q1 with q1
                injection q1 with _ q1
                rw [← q1]
              | some none, q1 => cases q1
              | none, q1 => cases q1
          have c3 : conts s1 bs = some dr := (keep bs).trans q3
          cases h with
          | st hv ht =>
            injection q1 with q1
            injection q1 with q1a q1b
            subst q1b
            injection q2 with q2
            subst q2
            obtain ⟨Hs2, x2, r2, h2, g2⟩ := ih r ht c3 e
            exact ⟨Hs2, x2, r2, .cons (hv.mono x2) h2, g2⟩
          | ow hv ht =>
            rename_i v i vs
            have z : ∃ Hs1, Ex Hs Hs1 ∧ Rs Φ Hs1 s1 σ H ∧ Rep Φ.C Hs1 v d := by
              have q2' : slotC s.ρ[i]? = some d := q2
              have q1 : frozI s i s.ρ[i]? = some (d1, s1) := q1
              match e0 : s.ρ[i]?, q1, q2' with
              | some (some (.d x)), q1, q2' =>
                injection q1 with q1
                injection q1 with q1a q1b
                subst q1b
                have q2' : some x = some d := q2'
                injection q2' with q2'
                subst q2'
                obtain ⟨v', w1, w2⟩ := r.slot i _ e0
                rw [hv] at w1
                injection w1 with w1
                injection w1 with w1
                subst w1
                exact ⟨Hs, Ex.refl _, r, w2⟩
              | some (some (.own x)), q1, q2' =>
                injection q1 with q1
                injection q1 with q1a q1b
                subst q1b
                have q2' : some x = some d := q2'
                injection q2' with q2'
                subst q2'
                obtain ⟨Hs', v', x1, r1, w1, w2⟩ := r.freezeOwn e0
                rw [hv] at w1
                injection w1 with w1
                injection w1 with w1
                subst w1
                exact ⟨Hs', x1, r1, w2⟩
              | some none, q1, _ => cases q1
              | none, q1, _ => cases q1
            obtain ⟨Hs1, x1, r1, h1⟩ := z
            obtain ⟨Hs2, x2, r2, h2, g2⟩ := ih r1 (ht.mono x1) c3 e
            exact ⟨Hs2, x1.trans x2, r2, .cons (h1.mono x2) h2, g2.trans gk⟩
/-- behind a call, in the caller -/
theorem Rs.called {g' : G} (r : Rs Φ Hs s σ H) (x : Ex Hs Hs') (xe : Ex Hs' H') (k : ∀ a o, some a ≠ Φ.C.dl → H a = some o → H' a = some o) (n : ∀ a o, H a = some o → Hs' a = Hs a) (hd : DiceAt Φ.C.dl g' Hs' H') : Rs Φ Hs' { s with g := g' } σ H' where
  ex0 := r.ex0.trans x
  ex := xe
  fr := fun a o h e => k a o h (r.fr a o h e)
  fs := fun a o e => by
    by_cases q : some a = Φ.C.dl
    · rw [(hd a q.symm).1, ← r.fs a o e, (r.dice a q.symm).1]
    · rw [n a o (r.fr a o q e)]
      exact r.fs a o e
  dice := hd
  len := r.len
  slot := fun i y e => by
    obtain ⟨v, e1, e2⟩ := r.slot i y e
    exact ⟨v, e1, e2.mono x⟩
  own := fun i y e => by
    obtain ⟨p, e1, e2, e3, e4, e5⟩ := r.own i y e
    obtain ⟨o, eo⟩ := e5.there
    exact ⟨p, e1, (n p o eo).trans e2, e3, e4, e5.mono x ((k p o e4 eo).trans eo.symm)⟩
  inj := r.inj
/-- .. what was lasting alone is kept in mind -/
theorem Rs.called0 {g' : G} {Hs1 : Hp} (r : Rs Φ Hs s σ H) (x : Ex Hs Hs1) (x1 : Ex Hs1 Hs') (xe : Ex Hs' H') (k : ∀ a o, some a ≠ Φ.C.dl → H a = some o → H' a = some o) (hd : DiceAt Φ.C.dl g' Hs' H') : Rs Φ Hs { s with g := g' } σ H' where
  ex0 := r.ex0
  ex := x.trans (x1.trans xe)
  fr := fun a o h e => k a o h (r.fr a o h e)
  fs := r.fs
  dice := fun a e => ⟨(r.dice a e).1, (hd a e).2⟩
  len := r.len
  slot := r.slot
  own := fun i y e => by
    obtain ⟨p, e1, e2, e3, e4, e5⟩ := r.own i y e
    obtain ⟨o, eo⟩ := e5.there
    exact ⟨p, e1, e2, e3, e4, e5.mono (Ex.refl _) ((k p o e4 eo).trans eo.symm)⟩
  inj := r.inj
theorem frozs_some {vs : List V} {bs : List BV} {ds : List D} (h : RBs Φ Hs σ vs bs) (c : conts s bs = some ds) : ∃ s', frozs bs s = some s' := by
  have one : ∀ (bs : List BV) (s : DS), (∀ b ∈ bs, ∃ d, cont s b = some d) → ∃ s', frozs bs s = some s' := by
    intro bs
    induction bs with
    | nil => exact fun s _ => ⟨s, rfl⟩
    | cons b bs ih =>
      intro s hb
      have step : ∃ d s1, froz s b = some (d, s1) ∧ ∀ b' d', cont s b' = some d' → ∃ d'', cont s1 b' = some d'' := by
        obtain ⟨d, hd⟩ := hb b List.mem_cons_self
        cases b with
        | st d0 => exact ⟨d0, s, rfl, fun b' d' e => ⟨d', e⟩⟩
        | fr d0 => exact ⟨d0, s, rfl, fun b' d' e => ⟨d', e⟩⟩
        | ow i =>
          have hd : slotC s.ρ[i]? = some d := hd
          match e0 : s.ρ[i]?, hd with
          | some (some (.d x)), hd => exact ⟨x, s, (by show frozI s i s.ρ[i]? = _; rw [e0]; rfl), fun b' d' e => ⟨d', e⟩⟩
          | some (some (.own x)), hd =>
            refine ⟨x, { s with ρ := s.ρ.set i (some (.d x)) }, (by show frozI s i s.ρ[i]? = _; rw [e0]; rfl), fun b' d' e => ?_⟩
            cases b' with
            | st d0 => exact ⟨d0, rfl⟩
            | fr d0 => exact ⟨d0, rfl⟩
            | ow j =>
              by_cases z : i = j
              · subst z
                refine ⟨x, ?_⟩
                show slotC (s.ρ.set i (some (.d x)))[i]? = some x
                rw [List.getElem?_set_self (List.getElem?_eq_some_iff.mp e0).1]
                rfl
              · refine ⟨d', ?_⟩
                show slotC (s.ρ.set i (some (.d x)))[j]? = some d'
                rw [List.getElem?_set_ne z]
                exact e
      obtain ⟨d, s1, e1, e2⟩ := step
      unfold frozs
      rw [e1]
      refine ih s1 fun b' hb' => ?_
      obtain ⟨d', hd'⟩ := hb b' (List.mem_cons_of_mem _ hb')
      exact e2 b' d' hd'
  refine one bs s ?_
  clear h
  induction bs generalizing ds with
  | nil => exact fun b hb => nomatch hb
  | cons b bs ih =>
    unfold conts at c
    cases q : cont s b with
    | none =>
      rw [q] at c
      cases c
    | some d =>
      rw [q] at c
      simp only at c
      cases q2 : conts s bs with
      | none =>
        rw [q2] at c
        cases c
      | some dr =>
        intro b' hb'
        rcases List.mem_cons.mp hb' with z | z
        · rw [z]
          exact ⟨d, q⟩
        · exact ih q2 b' z
end
section
variable {cl : Str → Option Addr} {K : PySem.W.Frag}
theorem sc_rep {C : Ctx} {Hs Hs' : Hp} {H H' : Hp} {v : V} {b : BV} (h : isSc b = true) (r : RetC C H Hs' H' v b) : ∃ d, b = .st d ∧ Rep C Hs v d := by
  cases b with
  | st d =>
    refine ⟨d, rfl, ?_⟩
    have r : Rep C Hs' v d := r
    cases d with
    | non => cases r; exact .non
    | bl _ => cases r; exact .bl _
    | int _ => cases r; exact .int _
    | str _ => cases r; exact .str _
    | lst _ => cases h
    | tup _ => cases h
    | dct _ => cases h
    | obj _ _ => cases h
    | dice => cases h
    | adr _ => cases h
    | scr _ => cases h
    | exc _ _ => cases h
  | fr x => cases h
  | ow i => cases h
theorem se_call {n : Nat} {den : Den} {f : FA} {E : XK} (σ : L2.St) (H : Hp) (Q : VK) (h : tE K cl (callE n den f) σ H Q) : tCall (SpD K cl n den) [] E (tA K cl f) σ H Q := by
  obtain ⟨Φ, Hs, s, b, s', T, r, e, k⟩ := h
  unfold callE at e
  cases q : f s with
  | none =>
    rw [q] at e
    cases e
  | some y =>
    obtain ⟨bs, s1⟩ := y
    rw [q] at e
    simp only at e
    by_cases hn : bs.length = n
    · rw [if_pos hn] at e
      cases q2 : conts s1 bs with
      | none =>
        rw [q2] at e
        cases e
      | some ds =>
        rw [q2] at e
        simp only at e
        cases q3 : den ds s1.g with
        | none =>
          rw [q3] at e
          cases e
        | some y =>
          obtain ⟨b0, g'⟩ := y
          rw [q3] at e
          simp only at e
          refine ⟨Φ, Hs, s, bs, s1, T, r, q, fun vs H1 Hs1 x1 r1 h1 => ?_⟩
          obtain ⟨s2, q4⟩ := frozs_some h1 q2
          obtain ⟨Hs2, x2, r2, h2, g2⟩ := frozs_ok r1 h1 q2 q4
          show SpD K cl n den (vs ++ []) H1 Q E
          rw [List.append_nil]
          refine ⟨Φ.C, s1.g, ds, Hs2, b0, g', T.k, T.c, r2.ex, ?_, h2, h1.length.trans hn, q3, fun v H' Hs' y1 y2 y3 y4 y5 y6 => ?_⟩
          · rw [← g2]
            exact r2.dice
          by_cases hsc : isSc b0 = true
          · rw [if_pos hsc] at e
            injection e with e
            injection e with e1 e2
            subst e1
            subst e2
            obtain ⟨d, rfl, hd⟩ := sc_rep (Hs := Hs1) hsc y6
            exact k v H' Hs1 x1 (r1.called0 x2 y1 y2 y3 y5) hd
          · rw [if_neg hsc] at e
            have rr := r2.called y1 y2 y3 y4 y5
            cases b0 with
            | ow i => cases e
            | st d =>
              simp only [q4] at e
              injection e with e
              injection e with e1 e2
              subst e1
              subst e2
              exact k v H' Hs' (x1.trans (x2.trans y1)) rr y6
            | fr x =>
              simp only [q4] at e
              injection e with e
              injection e with e1 e2
              subst e1
              subst e2
              obtain ⟨p, rfl, p1, p2, p3, p4⟩ := y6
              refine k _ H' Hs' (x1.trans (x2.trans y1)) rr ⟨p, rfl, p1, (r1.free p2).2.1, p3, fun i y e z => ?_, p4⟩
              obtain ⟨p', e1, e2, e3, e4, e5⟩ := r2.own i y e
              obtain ⟨o, eo⟩ := e5.there
              have zz : p' = p := by
                have := e1.symm.trans z
                injection this with this
                injection this with this
                injection this
              subst zz
              rw [p2] at eo
              cases eo
    · rw [if_neg hn] at e
      cases e
end

/-! ### a def by its body -/
def denOf (n : Nat) (body : FS) : Den := fun ds g => match body ⟨ds.map (fun d => some (.d d)) ++ List.replicate (n - ds.length) none, g⟩ with
  | some (.ret (.st d), s') => some (.st d, s'.g)
  | some (.ret (.fr d), s') => some (.fr d, s'.g)
  | some (.nx, s') => some (.st .non, s'.g)
  | _ => none
theorem rs_start {C : Ctx} {H Hs : Hp} {N : List Str} {vs : List V} {ds : List D} {g : G} (x : Ex Hs H) (hd : DiceAt C.dl g Hs H) (hr : Reps C Hs vs ds) :
    Rs ⟨C, H, Hs⟩ Hs ⟨ds.map (fun d => some (.d d)) ++ List.replicate (N.length - ds.length) none, g⟩ (L2.start N vs) H where
  ex0 := Ex.refl _
  ex := x
  fr := fun _ _ _ e => e
  fs := fun _ _ _ => rfl
  dice := hd
  len := by
    unfold L2.start
    rw [List.length_append, List.length_append, List.length_map, List.length_map, List.length_replicate, List.length_replicate, hr.length]
  slot := fun i y e => by
    by_cases hi : i < ds.length
    · rw [List.getElem?_append_left (by rw [List.length_map]; exact hi), List.getElem?_map] at e
      cases q : ds[i]? with
      | none =>
        rw [q] at e
        cases e
      | some d =>
        rw [q] at e
        injection e with e
        injection e with e
        injection e with e
        subst e
        obtain ⟨v, h1, h2⟩ := hr.get q
        refine ⟨v, ?_, h2⟩
        unfold L2.start
        rw [List.getElem?_append_left (by rw [List.length_map, hr.length]; exact hi), List.getElem?_map, h1]
        rfl
    · rw [List.getElem?_append_right (by rw [List.length_map]; omega), List.getElem?_replicate] at e
      split at e
      · cases e
      · cases e
  own := fun i y e => by
    by_cases hi : i < ds.length
    · rw [List.getElem?_append_left (by rw [List.length_map]; exact hi), List.getElem?_map] at e
      cases q : ds[i]? with
      | none =>
        rw [q] at e
        cases e
      | some d =>
        rw [q] at e
        injection e with e
        injection e with e
        cases e
    · rw [List.getElem?_append_right (by rw [List.length_map]; omega), List.getElem?_replicate] at e
      split at e
      · cases e
      · cases e
  inj := fun i j x y p e => by
    by_cases hi : i < ds.length
    · rw [List.getElem?_append_left (by rw [List.length_map]; exact hi), List.getElem?_map] at e
      cases q : ds[i]? with
      | none =>
        rw [q] at e
        cases e
      | some d =>
        rw [q] at e
        injection e with e
        injection e with e
        cases e
    · rw [List.getElem?_append_right (by rw [List.length_map]; omega), List.getElem?_replicate] at e
      split at e
      · cases e
      · cases e
/-- the body's reading from the def's promise -/
theorem body_start {K : PySem.W.Frag} {cl : Str → Option Addr} {N : List Str} {n : Nat} {body : FS} {vs : List V} {H : Hp} {Q : VK} {E : XK} (h : SpD K cl n (denOf N.length body) vs H Q E) :
    tS K cl body { nx := fun _ H' => Q .non H', rt := Q } (L2.start N vs) H := by
  obtain ⟨C, g, ds, Hs, b, g', hK, hc, x, hd, hr, hl, e, k⟩ := h
  unfold denOf at e
  have fin : ∀ (b : BV) (s' : DS) (σ' : L2.St) (H' Hs' : Hp) (v : V), s'.g = g' → Ex Hs Hs' → Rs ⟨C, H, Hs⟩ Hs' s' σ' H' → (RetC C H Hs' H' v b) → ((∀ v H' Hs', Ex Hs Hs' → Ex Hs' H' → (∀ a o, some a ≠ C.dl → H a = some o → H' a = some o) → (∀ a o, H a = some o → Hs' a = Hs a) → DiceAt C.dl g' Hs' H' → RetC C H Hs' H' v b → Q v H')) → Q v H' := by
    intro b s' σ' H' Hs' v eg x' r' hv k
    refine k v H' Hs' x' r'.ex r'.fr (fun a o e => r'.fs a o e) ?_ hv
    have z := r'.dice
    rw [eg] at z
    exact z
  split at e
  · rename_i d s' q
    injection e with e
    injection e with e1 e2
    subst e1
    refine ⟨⟨C, H, Hs⟩, Hs, _, _, s', ⟨hK, hc⟩, rs_start x hd hr, q, fun σ' H' Hs' x' r' v hv => ?_⟩
    exact fin (.st d) s' σ' H' Hs' v e2 x' r' hv k
  · rename_i d s' q
    injection e with e
    injection e with e1 e2
    subst e1
    refine ⟨⟨C, H, Hs⟩, Hs, _, _, s', ⟨hK, hc⟩, rs_start x hd hr, q, fun σ' H' Hs' x' r' v hv => ?_⟩
    obtain ⟨p, rfl, f⟩ := hv
    exact fin (.fr d) s' σ' H' Hs' _ e2 x' r' ⟨p, rfl, f.hs, f.hf, f.dl, f.at_⟩ k
  · rename_i s' q
    injection e with e
    injection e with e1 e2
    subst e1
    refine ⟨⟨C, H, Hs⟩, Hs, _, _, s', ⟨hK, hc⟩, rs_start x hd hr, q, fun σ' H' Hs' x' r' => ?_⟩
    exact fin (.st .non) s' σ' H' Hs' _ e2 x' r' (Rep.non) k
  · cases e
theorem fn_data {P : Program} {w : World} {K : PySem.W.Frag} {mg : Str → Option Value} {base : Heap} {cl : Str → Option Addr} {x qual : Str} {st : Stmt} {f : Addr} {fd : FuncData} {N ps : List Str} {k : Nat} {body : FS} (F : Fun K x qual st f fd) (S : FnScope N ps (defScope st))
    (hb : ∀ (cdv : Value) (A : Around) (outer : List Env) (s : Shared) (H : Hp) (E : XK), Room k (A.deeper (envOfC qual (defScope st) s.heap.objs.size f cdv)) → PSs (cxOf CX0 P w K mg base N qual (defScope st) f cdv A outer s H E).nox (defBody st) (tS K cl body)) :
    FnOk P w K mg base CX0 (k + 1) f fd ps (SpD K cl ps.length (denOf N.length body)) := by
  refine F.ok S (fun vs H Q E h => ?_) (fun cdv A outer s H vs Q E hr h => ⟨tS K cl body, hb cdv A outer s H E hr, body_start h⟩)
  obtain ⟨C, g, ds, Hs, b, g', hK, hc, x, hd, hr, hl, e, k⟩ := h
  exact hl
end DL


set_option Elab.async false
set_option linter.all false
set_option maxRecDepth 100000
set_option maxHeartbeats 2000000
/-! THE DATA LAYER, part 6: built-in operations -/
namespace DL
open PySem PySem.Spec PyProof.Rows L2

section
variable {Φ : Fx} {Hs H : Hp} {s : DS} {σ : L2.St} {Q : VK} {C : Ctx}
/-! ### how an operation ends -/
theorem fin_st {d : D} {v : V} (r : Rs Φ Hs s σ H) (k : ∀ v H' Hs', Ex Hs Hs' → Rs Φ Hs' s σ H' → RB Φ Hs' s σ H' v (.st d) → Q v H') (h : Rep Φ.C Hs v d) : Q v H := k v H Hs (Ex.refl _) r h
theorem fin_lst {ds : List D} {xs : List V} {p : Addr} (r : Rs Φ Hs s σ H) (k : ∀ v H' Hs', Ex Hs Hs' → Rs Φ Hs' s σ H' → RB Φ Hs' s σ H' v (.fr (.lst ds)) → Q v H') (hp : H p = none) (h : Reps Φ.C Hs xs ds) : Q (.ref p) (upd H p (.lst xs)) :=
  k _ _ Hs (Ex.refl _) (r.laid hp _) ⟨p, rfl, r.newAt hp ⟨xs, upd_same, h⟩⟩
theorem fin_tup {ds : List D} {xs : List V} {p : Addr} (r : Rs Φ Hs s σ H) (k : ∀ v H' Hs', Ex Hs Hs' → Rs Φ Hs' s σ H' → RB Φ Hs' s σ H' v (.st (.tup ds)) → Q v H') (hp : H p = none) (h : Reps Φ.C Hs xs ds) : Q (.ref p) (upd H p (.tup xs)) :=
  k _ _ (upd Hs p (.tup xs)) (Ex.new (r.free hp).1) (r.laidS hp _) (Rep.tup (SqT.of upd_same) (h.mono (Ex.new (r.free hp).1)))
theorem Opds.one {vs : List V} {a : D} (h : Opds C Hs H vs [a]) : ∃ x, vs = [x] ∧ Opd C Hs H x a := by
  cases h with
  | cons h1 h2 =>
    cases h2
    exact ⟨_, rfl, h1⟩
theorem Opds.two {vs : List V} {a b : D} (h : Opds C Hs H vs [a, b]) : ∃ x y, vs = [x, y] ∧ Opd C Hs H x a ∧ Opd C Hs H y b := by
  cases h with
  | cons h1 h2 =>
    obtain ⟨y, rfl, h3⟩ := h2.one
    exact ⟨_, y, rfl, h1, h3⟩
theorem opd_int {v : V} {i : Int} (h : Opd C Hs H v (.int i)) : v = .int i := by cases h; rfl
theorem opd_bl {v : V} {i : Bool} (h : Opd C Hs H v (.bl i)) : v = .bl i := by cases h; rfl
theorem opd_str {v : V} {i : List Nat} (h : Opd C Hs H v (.str i)) : v = .str (mkS i) := by cases h; rfl
theorem opd_non {v : V} (h : Opd C Hs H v .non) : v = .non := by cases h; rfl
theorem opd_tup {v : V} {ds : List D} (e : Ex Hs H) (h : Opd C Hs H v (.tup ds)) : ∃ p xs, v = .ref p ∧ SqT C.K H p xs ∧ Reps C Hs xs ds ∧ SqT C.K Hs p xs := by
  cases h with
  | tup h r => exact ⟨_, _, rfl, ex_t e h, r, h⟩
theorem opd_mk (x : List Nat) : (mkS x).cps.toList = x := rfl
theorem mk_app (x y : List Nat) : mkS x ++ mkS y = mkS (x ++ y) := by
  show (⟨(mkS x).cps ++ (mkS y).cps⟩ : Str) = ⟨(x ++ y).toArray⟩
  exact congrArg _ (by simp [mkS])
theorem mk_len (x : List Nat) : (mkS x).length = x.length := rfl
theorem mk_eq (z : Str) : mkS z.cps.toList = z := rfl
end

/-! ### two operands: + - * // % ** -/
def big64 (i : Int) : Bool := decide (-(2 ^ 64) < i) && decide (i < 2 ^ 64)
def pAdd : List D → Option BV
  | [.int i, .int j] => some (.st (.int (i + j)))
  | [.str x, .str y] => if x.length + y.length ≤ lineN then some (.st (.str (x ++ y))) else none
  | [.lst x, .lst y] => if x.length + y.length ≤ lineN then some (.fr (.lst (x ++ y))) else none
  | [.tup x, .tup y] => if x.length + y.length ≤ lineN then some (.st (.tup (x ++ y))) else none
  | _ => none
def rAddA (K : PySem.W.Frag) : R2 := fun x y H Q => (((rI0 fun i j => .int (i + j)) x y H Q ∨ (∃ i j, x = .str i ∧ y = .str j ∧ i.length + j.length ≤ sizeLine ∧ Q (.str (i ++ j)) H)) ∨ rCat x y H Q) ∨ rCatA K x y H Q
theorem op_addA {X : Cx} : OpR X (binaryOp .Add) (rAddA X.K) := ((op_add.or op_add_str).or op_cat).or op_catA
theorem p_add {K : PySem.W.Frag} {cl : Str → Option Addr} : POk K cl (r2L (rAddA K)) pAdd := by
  intro Φ Hs s σ H vs ds b T r ho e Q k
  unfold pAdd at e
  split at e
  · injection e with e
    subst e
    obtain ⟨x, y, rfl, h1, h2⟩ := ho.two
    rw [opd_int h1, opd_int h2]
    exact ⟨_, _, rfl, .inl (.inl (.inl ⟨_, _, rfl, rfl, fin_st r k (.int _)⟩))⟩
  · rename_i a c
    by_cases hl : a.length + c.length ≤ lineN
    · rw [if_pos hl] at e
      injection e with e
      subst e
      obtain ⟨x, y, rfl, h1, h2⟩ := ho.two
      rw [opd_str h1, opd_str h2]
      refine ⟨_, _, rfl, .inl (.inl (.inr ⟨_, _, rfl, rfl, ?_, ?_⟩))⟩
      · rw [line_eq]
        exact hl
      · rw [mk_app]
        exact fin_st r k (.str _)
    · rw [if_neg hl] at e
      cases e
  · rename_i a c
    by_cases hl : a.length + c.length ≤ lineN
    · rw [if_pos hl] at e
      injection e with e
      subst e
      obtain ⟨x, y, rfl, ⟨p, xs, rfl, h1, h2⟩, ⟨q, ys, rfl, h3, h4⟩⟩ := ho.two
      refine ⟨_, _, rfl, .inl (.inr ⟨p, q, xs, ys, rfl, rfl, h1, h3, ?_, fun l hp => fin_lst r k hp (h2.append h4)⟩)⟩
      rw [line_eq, h2.length, h4.length]
      exact hl
    · rw [if_neg hl] at e
      cases e
  · rename_i a c
    by_cases hl : a.length + c.length ≤ lineN
    · rw [if_pos hl] at e
      injection e with e
      subst e
      obtain ⟨x, y, rfl, h1, h2⟩ := ho.two
      obtain ⟨p, xs, rfl, t1, r1, u1⟩ := opd_tup r.ex h1
      obtain ⟨q, ys, rfl, t2, r2, u2⟩ := opd_tup r.ex h2
      rw [T.k] at t1 t2
      refine ⟨_, _, rfl, .inr ⟨p, q, xs, ys, rfl, rfl, t1, t2, ?_, fun z => ?_, fun z1 z2 => ?_, fun _ _ l hp => fin_tup r k hp (r1.append r2)⟩⟩
      · rw [line_eq, r1.length, r2.length]
        exact hl
      · subst z
        cases r1
        exact fin_st r k (.tup u2 r2)
      · subst z2
        cases r2
        rw [List.append_nil] at k
        exact fin_st r k (.tup u1 r1)
    · rw [if_neg hl] at e
      cases e
  · cases e
def pSub : List D → Option BV
  | [.int i, .int j] => some (.st (.int (i - j)))
  | _ => none
theorem p_sub {K : PySem.W.Frag} {cl : Str → Option Addr} : POk K cl (r2L (rI0 fun i j => .int (i - j))) pSub := by
  intro Φ Hs s σ H vs ds b T r ho e Q k
  unfold pSub at e
  split at e
  · injection e with e
    subst e
    obtain ⟨x, y, rfl, h1, h2⟩ := ho.two
    rw [opd_int h1, opd_int h2]
    exact ⟨_, _, rfl, _, _, rfl, rfl, fin_st r k (.int _)⟩
  · cases e
def repD {α : Type} (k : Nat) (xs : List α) : List α := (List.replicate k xs).flatten
theorem reps_rep {C : Ctx} {H : Hp} {xs : List V} {ds : List D} (h : Reps C H xs ds) : ∀ k : Nat, Reps C H (repD k xs) (repD k ds)
  | 0 => .nil
  | k + 1 => by
    unfold repD
    rw [List.replicate_succ, List.replicate_succ, List.flatten_cons, List.flatten_cons]
    exact h.append (reps_rep h k)
def pMul : List D → Option BV
  | [.int i, .int j] => if big64 i || big64 j then some (.st (.int (i * j))) else none
  | [.lst x, .int j] => if decide (-(2 ^ 63) ≤ j) && decide (j < 2 ^ 63) && decide (x.length * j.toNat ≤ lineN) then some (.fr (.lst (repD j.toNat x))) else none
  | _ => none
def rMulA : R2 := fun x y H Q => (rI CMul fun i j => .int (i * j)) x y H Q ∨ rRep x y H Q
theorem op_mulA {X : Cx} : OpR X (binaryOp .Mult) rMulA := op_mul.or op_rep
theorem big64_ok {i : Int} (h : big64 i = true) : -(2 ^ 64) < i ∧ i < 2 ^ 64 := by
  unfold big64 at h
  rw [Bool.and_eq_true] at h
  exact ⟨of_decide_eq_true h.1, of_decide_eq_true h.2⟩
theorem p_mul {K : PySem.W.Frag} {cl : Str → Option Addr} : POk K cl (r2L rMulA) pMul := by
  intro Φ Hs s σ H vs ds b T r ho e Q k
  unfold pMul at e
  split at e
  · rename_i i j
    by_cases hb : (big64 i || big64 j) = true
    · rw [if_pos hb] at e
      injection e with e
      subst e
      obtain ⟨x, y, rfl, h1, h2⟩ := ho.two
      rw [opd_int h1, opd_int h2]
      refine ⟨_, _, rfl, .inl ⟨_, _, rfl, rfl, ?_, fin_st r k (.int _)⟩⟩
      rcases Bool.or_eq_true_iff.mp hb with h | h
      · exact .inl (big64_ok h)
      · exact .inr (big64_ok h)
    · rw [if_neg hb] at e
      cases e
  · rename_i a j
    split at e
    · rename_i hb
      rw [Bool.and_eq_true, Bool.and_eq_true] at hb
      injection e with e
      subst e
      obtain ⟨x, y, rfl, ⟨p, xs, rfl, h1, h2⟩, h3⟩ := ho.two
      rw [opd_int h3]
      refine ⟨_, _, rfl, .inr ⟨p, j, xs, rfl, rfl, h1, of_decide_eq_true hb.1.1, of_decide_eq_true hb.1.2, ?_, fun l hp => fin_lst r k hp (reps_rep h2 _)⟩⟩
      rw [line_eq, h2.length]
      exact of_decide_eq_true hb.2
    · cases e
  · cases e
def pFdiv : List D → Option BV
  | [.int i, .int j] => if decide (0 < j) && decide (j < 1073741824) then some (.st (.int (i / j))) else none
  | _ => none
theorem p_fdiv {K : PySem.W.Frag} {cl : Str → Option Addr} : POk K cl (r2L (rI CDiv fun i j => .int (i / j))) pFdiv := by
  intro Φ Hs s σ H vs ds b T r ho e Q k
  unfold pFdiv at e
  split at e
  · split at e
    · rename_i hb
      rw [Bool.and_eq_true] at hb
      injection e with e
      subst e
      obtain ⟨x, y, rfl, h1, h2⟩ := ho.two
      rw [opd_int h1, opd_int h2]
      exact ⟨_, _, rfl, _, _, rfl, rfl, ⟨of_decide_eq_true hb.1, of_decide_eq_true hb.2⟩, fin_st r k (.int _)⟩
    · cases e
  · cases e
def pMod : List D → Option BV
  | [.int i, .int j] => if 0 < j then some (.st (.int (i % j))) else none
  | _ => none
theorem p_mod {K : PySem.W.Frag} {cl : Str → Option Addr} : POk K cl (r2L (rI (fun _ j => 0 < j) fun i j => .int (i % j))) pMod := by
  intro Φ Hs s σ H vs ds b T r ho e Q k
  unfold pMod at e
  split at e
  · split at e
    · rename_i hb
      injection e with e
      subst e
      obtain ⟨x, y, rfl, h1, h2⟩ := ho.two
      rw [opd_int h1, opd_int h2]
      exact ⟨_, _, rfl, _, _, rfl, rfl, hb, fin_st r k (.int _)⟩
    · cases e
  · cases e
def pPow : List D → Option BV
  | [.int i, .int j] => if decide (0 ≤ j) && decide (j ≤ 1000000) && decide (i.natAbs < 2 ^ 64) then some (.st (.int (i ^ j.toNat))) else none
  | _ => none
theorem p_pow {K : PySem.W.Frag} {cl : Str → Option Addr} : POk K cl (r2L (rI CPow fun i j => .int (i ^ j.toNat))) pPow := by
  intro Φ Hs s σ H vs ds b T r ho e Q k
  unfold pPow at e
  split at e
  · split at e
    · rename_i hb
      rw [Bool.and_eq_true, Bool.and_eq_true] at hb
      injection e with e
      subst e
      obtain ⟨x, y, rfl, h1, h2⟩ := ho.two
      rw [opd_int h1, opd_int h2]
      exact ⟨_, _, rfl, _, _, rfl, rfl, ⟨of_decide_eq_true hb.1.1, of_decide_eq_true hb.1.2, of_decide_eq_true hb.2⟩, fin_st r k (.int _)⟩
    · cases e
  · cases e
def pNeg : List D → Option BV
  | [.int i] => some (.st (.int (-i)))
  | _ => none
theorem p_neg {K : PySem.W.Frag} {cl : Str → Option Addr} : POk K cl (r1L (rU fun i => .int (-i))) pNeg := by
  intro Φ Hs s σ H vs ds b T r ho e Q k
  unfold pNeg at e
  split at e
  · injection e with e
    subst e
    obtain ⟨x, rfl, h1⟩ := ho.one
    rw [opd_int h1]
    exact ⟨_, rfl, _, rfl, fin_st r k (.int _)⟩
  · cases e

/-! ### == and != at any depth -/
mutual
def toP : D → Option PyData
  | .non => some .none
  | .bl b => some (.bool b)
  | .int i => some (.int i)
  | .str x => some (.str (mkS x))
  | .lst xs => match toPs xs with
    | some ps => some (.list ps)
    | none => none
  | .tup xs => match toPs xs with
    | some ps => some (.tuple ps)
    | none => none
  | .dct _ => none
  | .obj _ _ => none
  | .dice => none
  | .adr _ => none
  | .scr _ => none
  | .exc _ _ => none
def toPs : List D → Option (List PyData)
  | [] => some []
  | x :: r => match toP x with
    | some p => match toPs r with
      | some ps => some (p :: ps)
      | none => none
    | none => none
end
section
variable {C : Ctx} {Hs H : Hp}
mutual
theorem dp_of (x : Ex Hs H) : ∀ {v : V} {d : D} {p : PyData}, Rep C Hs v d → toP d = some p → Dp C.K H v p
  | _, _, _, .non, e => by injection e with e; subst e; exact .non
  | _, _, _, .bl b, e => by injection e with e; subst e; exact .bl _
  | _, _, _, .int b, e => by injection e with e; subst e; exact .int _
  | _, _, _, .str b, e => by injection e with e; subst e; exact .str _
  | _, _, _, .lst (ds := ds) h r, e => by
    unfold toP at e
    cases q : toPs ds with
    | none =>
      rw [q] at e
      cases e
    | some ps =>
      rw [q] at e
      injection e with e
      subst e
      exact .lst (SqL.of (x _ _ h)) (dps_of x r q)
  | _, _, _, .tup (ds := ds) h r, e => by
    unfold toP at e
    cases q : toPs ds with
    | none =>
      rw [q] at e
      cases e
    | some ps =>
      rw [q] at e
      injection e with e
      subst e
      exact .tup (ex_t x h) (dps_of x r q)
  | _, _, _, .dct h r, e => by unfold toP at e; cases e
  | _, _, _, .obj c h r, e => by unfold toP at e; cases e
  | _, _, _, .dice h, e => by unfold toP at e; cases e
  | _, _, _, .adr a, e => by unfold toP at e; cases e
  | _, _, _, .scr a, e => by unfold toP at e; cases e
  | _, _, _, .exc c h r, e => by unfold toP at e; cases e
theorem dps_of (x : Ex Hs H) : ∀ {v : List V} {d : List D} {p : List PyData}, Reps C Hs v d → toPs d = some p → DpAll C.K H v p
  | _, _, _, .nil, e => by
    unfold toPs at e
    injection e with e
    subst e
    exact .nil
  | _, _, _, .cons (d := d) (ds := ds) h r, e => by
    unfold toPs at e
    cases q : toP d with
    | none =>
      rw [q] at e
      cases e
    | some p =>
      rw [q] at e
      cases q2 : toPs ds with
      | none =>
        rw [q2] at e
        cases e
      | some ps =>
        rw [q2] at e
        injection e with e
        subst e
        exact .cons (dp_of x h q) (dps_of x r q2)
end
theorem dp_opd (x : Ex Hs H) {v : V} {d : D} {p : PyData} (h : Opd C Hs H v d) (e : toP d = some p) : Dp C.K H v p := by
  cases d with
  | lst ds =>
    obtain ⟨a, xs, rfl, h1, h2⟩ := h
    unfold toP at e
    cases q : toPs ds with
    | none =>
      rw [q] at e
      cases e
    | some ps =>
      rw [q] at e
      injection e with e
      subst e
      exact .lst (SqL.of h1) (dps_of x h2 q)
  | dct _ => unfold toP at e; cases e
  | obj _ _ => unfold toP at e; cases e
  | non => exact dp_of x h e
  | bl _ => exact dp_of x h e
  | int _ => exact dp_of x h e
  | str _ => exact dp_of x h e
  | tup _ => exact dp_of x h e
  | dice => exact dp_of x h e
  | adr _ => exact dp_of x h e
  | scr _ => exact dp_of x h e
  | exc _ _ => exact dp_of x h e
end
/-- whether two data are equal, as Python says -/
def eqD (a b : D) : Option Bool := match toP a, toP b with
  | some p, some q => if SeqAt.shaped p && SeqAt.shaped q then some (PyData.eqv p q) else none
  | _, _ => none
def pEq : List D → Option BV
  | [a, b] => match eqD a b with
    | some k => some (.st (.bl k))
    | none => none
  | _ => none
def pNe : List D → Option BV
  | [a, b] => match eqD a b with
    | some k => some (.st (.bl (!k)))
    | none => none
  | _ => none
theorem eqD_inv {a b : D} {k : Bool} (e : eqD a b = some k) : ∃ p q, toP a = some p ∧ toP b = some q ∧ SeqAt.shaped p = true ∧ SeqAt.shaped q = true ∧ k = PyData.eqv p q := by
  unfold eqD at e
  split at e
  · rename_i p q h1 h2
    split at e
    · rename_i hs
      rw [Bool.and_eq_true] at hs
      injection e with e
      exact ⟨p, q, h1, h2, hs.1, hs.2, e.symm⟩
    · cases e
  · cases e
theorem p_eq {K : PySem.W.Frag} {cl : Str → Option Addr} : POk K cl (r2L (rEqD K)) pEq := by
  intro Φ Hs s σ H vs ds b T r ho e Q k
  unfold pEq at e
  split at e
  · split at e
    · rename_i k' q
      injection e with e
      subst e
      obtain ⟨x, y, rfl, h1, h2⟩ := ho.two
      obtain ⟨p1, p2, e1, e2, s1, s2, rfl⟩ := eqD_inv q
      have d1 := dp_opd r.ex h1 e1
      have d2 := dp_opd r.ex h2 e2
      rw [T.k] at d1 d2
      exact ⟨_, _, rfl, p1, p2, d1, d2, s1, s2, fin_st r k (.bl _)⟩
    · cases e
  · cases e
theorem p_ne {K : PySem.W.Frag} {cl : Str → Option Addr} : POk K cl (r2L (rNeD K)) pNe := by
  intro Φ Hs s σ H vs ds b T r ho e Q k
  unfold pNe at e
  split at e
  · split at e
    · rename_i k' q
      injection e with e
      subst e
      obtain ⟨x, y, rfl, h1, h2⟩ := ho.two
      obtain ⟨p1, p2, e1, e2, s1, s2, rfl⟩ := eqD_inv q
      have d1 := dp_opd r.ex h1 e1
      have d2 := dp_opd r.ex h2 e2
      rw [T.k] at d1 d2
      exact ⟨_, _, rfl, p1, p2, d1, d2, s1, s2, fin_st r k (.bl _)⟩
    · cases e
  · cases e
/-! ### < <= > >= of ints and texts -/
def ltS (x y : List Nat) : Bool := decide (x < y)
def pLt : List D → Option BV
  | [.int i, .int j] => some (.st (.bl (decide (i < j))))
  | [.str x, .str y] => some (.st (.bl (ltS x y)))
  | _ => none
def rLtA : R2 := fun x y H Q => (rI0 fun i j => .bl (decide (i < j))) x y H Q ∨ (∃ i j, x = .str i ∧ y = .str j ∧ Q (.bl (decide (i.cps.toList < j.cps.toList))) H)
theorem op_ltA {X : Cx} : OpR X (compareOp .Lt) rLtA := op_lt.or op_lt_str
theorem p_lt {K : PySem.W.Frag} {cl : Str → Option Addr} : POk K cl (r2L rLtA) pLt := by
  intro Φ Hs s σ H vs ds b T r ho e Q k
  unfold pLt at e
  split at e
  · injection e with e
    subst e
    obtain ⟨x, y, rfl, h1, h2⟩ := ho.two
    rw [opd_int h1, opd_int h2]
    exact ⟨_, _, rfl, .inl ⟨_, _, rfl, rfl, fin_st r k (.bl _)⟩⟩
  · injection e with e
    subst e
    obtain ⟨x, y, rfl, h1, h2⟩ := ho.two
    rw [opd_str h1, opd_str h2]
    exact ⟨_, _, rfl, .inr ⟨_, _, rfl, rfl, fin_st r k (.bl _)⟩⟩
  · cases e
def pCmpI (f : Int → Int → Bool) : List D → Option BV
  | [.int i, .int j] => some (.st (.bl (f i j)))
  | _ => none
theorem p_cmpI {K : PySem.W.Frag} {cl : Str → Option Addr} (f : Int → Int → Bool) : POk K cl (r2L (rI0 fun i j => .bl (f i j))) (pCmpI f) := by
  intro Φ Hs s σ H vs ds b T r ho e Q k
  unfold pCmpI at e
  split at e
  · injection e with e
    subst e
    obtain ⟨x, y, rfl, h1, h2⟩ := ho.two
    rw [opd_int h1, opd_int h2]
    exact ⟨_, _, rfl, _, _, rfl, rfl, fin_st r k (.bl _)⟩
  · cases e
/-! ### in, not in -/
def flatD : D → Bool
  | .non => true
  | .bl _ => true
  | .int _ => true
  | .str _ => true
  | _ => false
def eqF : D → D → Bool
  | .non, .non => true
  | .bl a, .bl b => a == b
  | .bl a, .int b => (if a then 1 else 0) == b
  | .int a, .bl b => a == (if b then 1 else 0)
  | .int a, .int b => a == b
  | .str a, .str b => a == b
  | _, _ => false
def inD (x : D) (xs : List D) : Option Bool := if flatD x && xs.all flatD then some (xs.any fun y => eqF y x) else none
def inA : List D → Option Bool
  | [.str [c], .str z] => some (decide (c ∈ z))
  | [x, .lst ds] => inD x ds
  | [x, .tup ds] => inD x ds
  | _ => none
def blBV (neg : Bool) : Option Bool → Option BV
  | some k => some (.st (.bl (if neg then !k else k)))
  | none => none
def pIn : List D → Option BV := fun ds => blBV false (inA ds)
def pNotIn : List D → Option BV := fun ds => blBV true (inA ds)
theorem blBV_inv {neg : Bool} {o : Option Bool} {b : BV} (e : blBV neg o = some b) : ∃ k, o = some k ∧ b = .st (.bl (if neg then !k else k)) := by
  cases o with
  | none => cases e
  | some k =>
    injection e with e
    exact ⟨k, rfl, e.symm⟩
theorem flat_rep {C : Ctx} {H : Hp} {v : V} {d : D} (h : Rep C H v d) (f : flatD d = true) : flatV v = true := by
  cases h <;> (first | rfl | cases f)
theorem flats_rep {C : Ctx} {H : Hp} : ∀ {vs : List V} {ds : List D}, Reps C H vs ds → ds.all flatD = true → vs.all flatV = true
  | _, _, .nil, _ => rfl
  | _, _, .cons h t, f => by
    rw [List.all_cons, Bool.and_eq_true] at f ⊢
    exact ⟨flat_rep h f.1, flats_rep t f.2⟩
theorem mkS_inj {a b : List Nat} (h : mkS a = mkS b) : a = b := by
  have := congrArg (fun z : Str => z.cps.toList) h
  exact this
theorem eqF_rep {C : Ctx} {H : Hp} {v w : V} {d e : D} (h : Rep C H v d) (h2 : Rep C H w e) (f : flatD d = true) (f2 : flatD e = true) : eqV v w = eqF d e := by
  cases h <;> cases h2 <;> (first | rfl | cases f | cases f2 | skip)
  rename_i a b
  show (mkS a == mkS b) = (a == b)
  by_cases z : a = b
  · subst z
    rw [beq_self_eq_true, beq_self_eq_true]
  · rw [beq_eq_false_iff_ne.mpr z, beq_eq_false_iff_ne.mpr (fun q => z (mkS_inj q))]
theorem in_rep {C : Ctx} {H : Hp} {w : V} {e : D} (h2 : Rep C H w e) (f2 : flatD e = true) : ∀ {vs : List V} {ds : List D}, Reps C H vs ds → ds.all flatD = true → inV w vs = ds.any fun y => eqF y e
  | _, _, .nil, _ => rfl
  | _, _, .cons h t, f => by
    rw [List.all_cons, Bool.and_eq_true] at f
    show (List.any (_ :: _) _) = List.any (_ :: _) _
    rw [List.any_cons, List.any_cons, eqF_rep h h2 f.1 f2]
    exact congrArg _ (in_rep h2 f2 t f.2)
def rInA (K : PySem.W.Frag) (neg : Bool) : R2 := fun x y H Q => rIn K neg x y H Q ∨ (∃ (c : Nat) (z : Str), x = .str ⟨#[c]⟩ ∧ y = .str z ∧ Q (.bl (if neg then !decide (c ∈ z.cps.toList) else decide (c ∈ z.cps.toList))) H)
theorem op_inA {X : Cx} : OpR X (compareOp .In) (rInA X.K false) := op_in_seq.or op_in_sign
theorem op_notInA {X : Cx} : OpR X (compareOp .NotIn) (rInA X.K true) := op_notIn_seq.or op_notIn_sign
theorem flat_opd {C : Ctx} {Hs H : Hp} {v : V} {d : D} (h : Opd C Hs H v d) (f : flatD d = true) : Rep C Hs v d := by
  cases d <;> (first | exact h | cases f)
theorem p_inG {K : PySem.W.Frag} {cl : Str → Option Addr} (neg : Bool) : POk K cl (r2L (rInA K neg)) (fun ds => blBV neg (inA ds)) := by
  intro Φ Hs s σ H vs ds b T r ho e Q k
  obtain ⟨kk, q, rfl⟩ := blBV_inv e
  · unfold inA at q
    split at q
    · rename_i c z
      injection q with q
      subst q
      obtain ⟨x, y, rfl, h1, h2⟩ := ho.two
      rw [opd_str h1, opd_str h2]
      exact ⟨_, _, rfl, .inr ⟨c, mkS z, rfl, rfl, fin_st r k (.bl _)⟩⟩
    · rename_i d0 dl _
      unfold inD at q
      split at q
      · rename_i hf
        rw [Bool.and_eq_true] at hf
        injection q with q
        obtain ⟨x, y, rfl, h1, ⟨p, xs, rfl, h2, h3⟩⟩ := ho.two
        have hx := flat_opd h1 hf.1
        refine ⟨_, _, rfl, .inl ⟨p, xs, rfl, .inl (SqL.of h2), flat_rep hx hf.1, flats_rep h3 hf.2, ?_⟩⟩
        rw [in_rep hx hf.1 h3 hf.2, q]
        exact fin_st r k (.bl _)
      · cases q
    · rename_i d0 dl _
      unfold inD at q
      split at q
      · rename_i hf
        rw [Bool.and_eq_true] at hf
        injection q with q
        obtain ⟨x, y, rfl, h1, h2⟩ := ho.two
        obtain ⟨p, xs, rfl, t1, r1, u1⟩ := opd_tup r.ex h2
        rw [T.k] at t1
        have hx := flat_opd h1 hf.1
        refine ⟨_, _, rfl, .inl ⟨p, xs, rfl, .inr t1, flat_rep hx hf.1, flats_rep r1 hf.2, ?_⟩⟩
        rw [in_rep hx hf.1 r1 hf.2, q]
        exact fin_st r k (.bl _)
      · cases q
    · cases q
theorem p_in {K : PySem.W.Frag} {cl : Str → Option Addr} : POk K cl (r2L (rInA K false)) pIn := p_inG false
theorem p_notIn {K : PySem.W.Frag} {cl : Str → Option Addr} : POk K cl (r2L (rInA K true)) pNotIn := p_inG true
/-! ### is, is not: of None, of bools -/
def isNon : D → Bool
  | .non => true
  | _ => false
def isA : List D → Option Bool
  | [.bl a, .bl b] => some (decide (a = b))
  | [x, .non] => some (isNon x)
  | _ => none
def rIsA (neg : Bool) : R2 := fun x y H Q => (y = .non ∧ Q (.bl (if neg then !decide (x = .non) else decide (x = .non))) H) ∨ (∃ a b : Bool, x = .bl a ∧ y = .bl b ∧ Q (.bl (if neg then !decide (a = b) else decide (a = b))) H)
theorem op_isA {X : Cx} : OpR X (compareOp .Is) (rIsA false) := op_isN.or op_isBl
theorem op_isNotA {X : Cx} : OpR X (compareOp .IsNot) (rIsA true) := op_notN.or op_notBl
theorem non_iff {C : Ctx} {Hs H : Hp} {v : V} {d : D} (h : Opd C Hs H v d) : decide (v = .non) = isNon d := by
  cases d with
  | non => rw [opd_non h]; rfl
  | lst _ => obtain ⟨p, xs, rfl, _⟩ := h; rfl
  | dct _ => obtain ⟨p, xs, rfl, _⟩ := h; rfl
  | obj _ _ => obtain ⟨p, _, _, xs, rfl, _⟩ := h; rfl
  | bl _ => cases h; rfl
  | int _ => cases h; rfl
  | str _ => cases h; rfl
  | tup _ => cases h; rfl
  | dice => cases h; rfl
  | adr _ => cases h; rfl
  | scr _ => cases h; rfl
  | exc _ _ => cases h; rfl
theorem p_isG {K : PySem.W.Frag} {cl : Str → Option Addr} (neg : Bool) : POk K cl (r2L (rIsA neg)) (fun ds => blBV neg (isA ds)) := by
  intro Φ Hs s σ H vs ds b T r ho e Q k
  obtain ⟨kk, q, rfl⟩ := blBV_inv e
  · unfold isA at q
    split at q
    · injection q with q
      subst q
      obtain ⟨x, y, rfl, h1, h2⟩ := ho.two
      rw [opd_bl h1, opd_bl h2]
      exact ⟨_, _, rfl, .inr ⟨_, _, rfl, rfl, fin_st r k (.bl _)⟩⟩
    · injection q with q
      subst q
      obtain ⟨x, y, rfl, h1, h2⟩ := ho.two
      rw [opd_non h2]
      refine ⟨_, _, rfl, .inl ⟨rfl, ?_⟩⟩
      rw [non_iff h1]
      exact fin_st r k (.bl _)
    · cases q
def pIs : List D → Option BV := fun ds => blBV false (isA ds)
def pIsNot : List D → Option BV := fun ds => blBV true (isA ds)
theorem p_is {K : PySem.W.Frag} {cl : Str → Option Addr} : POk K cl (r2L (rIsA false)) pIs := p_isG false
theorem p_isNot {K : PySem.W.Frag} {cl : Str → Option Addr} : POk K cl (r2L (rIsA true)) pIsNot := p_isG true
end DL


set_option Elab.async false
set_option linter.all false
set_option maxRecDepth 100000
set_option maxHeartbeats 2000000
/-! THE DATA LAYER, part 7: subscripts, slices, displays, built-in functions, methods, what is walked -/
namespace DL
open PySem PySem.Spec PyProof.Rows L2

/-! ### xs[i] -/
def pIx : List D → Option BV
  | [.scr ns, .int i] => match atI ns i with
    | some n => some (.st (.int n))
    | none => none
  | [.lst ds, .int i] => match atI ds i with
    | some d => some (.st d)
    | none => none
  | [.tup ds, .int i] => match atI ds i with
    | some d => some (.st d)
    | none => none
  | [.str x, .int i] => if x.length ≤ lineN then (match atI x i with
    | some c => some (.st (.str [c]))
    | none => none) else none
  | _ => none
theorem at_reps {C : Ctx} {H : Hp} {xs : List V} {ds : List D} {i : Int} {d : D} (h : Reps C H xs ds) (e : atI ds i = some d) : ∃ v, atI xs i = some v ∧ Rep C H v d := by
  unfold atI at e ⊢
  rw [h.length]
  cases q : ixN ds.length i with
  | none =>
    rw [q] at e
    cases e
  | some j =>
    rw [q] at e
    obtain ⟨v, h1, h2⟩ := h.get e
    exact ⟨v, h1, h2⟩
theorem p_ix {K : PySem.W.Frag} {cl : Str → Option Addr} : POk K cl (r2L (rIx K)) pIx := by
  intro Φ Hs s σ H vs ds b T r ho e Q k
  unfold pIx at e
  split at e
  · rename_i ns i
    split at e
    · rename_i n q
      injection e with e
      subst e
      obtain ⟨x, y, rfl, h1, h3⟩ := ho.two
      rw [opd_int h3]
      cases h1 with
      | scr h =>
        have h := ex_l r.ex h
        rw [T.k] at h
        refine ⟨_, _, rfl, .inl ⟨_, _, _, .int n, rfl, rfl, h, ?_, fin_st r k (.int n)⟩⟩
        unfold atI at q ⊢
        rw [List.length_map]
        cases z : ixN ns.length i with
        | none => rw [z] at q; cases q
        | some j =>
          rw [z] at q
          have q : ns[j]? = some n := q
          show (ns.map V.int)[j]? = some (.int n)
          rw [List.getElem?_map, q]
          rfl
    · cases e
  · split at e
    · rename_i d q
      injection e with e
      subst e
      obtain ⟨x, y, rfl, ⟨p, xs, rfl, h1, h2⟩, h3⟩ := ho.two
      rw [opd_int h3]
      obtain ⟨v, e1, e2⟩ := at_reps h2 q
      exact ⟨_, _, rfl, .inl ⟨p, xs, _, v, rfl, rfl, SqL.of h1, e1, fin_st r k e2⟩⟩
    · cases e
  · split at e
    · rename_i d q
      injection e with e
      subst e
      obtain ⟨x, y, rfl, h1, h3⟩ := ho.two
      obtain ⟨p, xs, rfl, t1, r1, u1⟩ := opd_tup r.ex h1
      rw [T.k] at t1
      rw [opd_int h3]
      obtain ⟨v, e1, e2⟩ := at_reps r1 q
      exact ⟨_, _, rfl, .inr (.inl ⟨p, xs, _, v, rfl, rfl, t1, e1, fin_st r k e2⟩)⟩
    · cases e
  · split at e
    · rename_i hl
      split at e
      · rename_i c q
        injection e with e
        subst e
        obtain ⟨x, y, rfl, h1, h3⟩ := ho.two
        rw [opd_str h1, opd_int h3]
        exact ⟨_, _, rfl, .inr (.inr ⟨_, _, c, rfl, rfl, by rw [line_eq]; exact hl, q, fin_st r k (.str [c])⟩)⟩
      · cases e
    · cases e
  · cases e
/-! ### xs[a:b] -/
abbrev FO := DS → Option (Option Int × DS)
def noO : FO := fun s => some (none, s)
def someO (f : FE) : FO := fun s => match f s with
  | some (.st (.int i), s1) => some (some i, s1)
  | _ => none
def cutD {α : Type} (xs : List α) (lo hi : Option Int) : List α := (xs.drop (HT.sIx xs.length 0 lo)).take (HT.sIx xs.length xs.length hi - HT.sIx xs.length 0 lo)
def slD (lo hi : Option Int) : D → Option BV
  | .lst xs => some (.fr (.lst (cutD xs lo hi)))
  | .tup xs => some (.st (.tup (cutD xs lo hi)))
  | .str x => if x.length ≤ lineN then some (.st (.str (cutD x lo hi))) else none
  | _ => none
def slE (f : FE) (lo hi : FO) : FE := fun s => match f s with
  | some (b, s1) => match lo s1 with
    | some (l, s2) => match hi s2 with
      | some (h, s3) => match cont s3 (settle b) with
        | some d => match slD l h d with
          | some b' => some (b', s3)
          | none => none
        | none => none
      | none => none
    | none => none
  | none => none
section
variable {cl : Str → Option Addr} {K : PySem.W.Frag}
def tO (K : PySem.W.Frag) (cl : Str → Option Addr) (f : FO) : TO := fun σ H Q => ∃ Φ Hs s b s', Tie K cl Φ ∧ Rs Φ Hs s σ H ∧ f s = some (b, s') ∧ ∀ H' Hs', Ex Hs Hs' → Rs Φ Hs' s' σ H' → Q b H'
theorem so_none (σ : L2.St) (H : Hp) (Q : Option Int → Hp → Prop) (h : tO K cl noO σ H Q) : tNoPart σ H Q := by
  obtain ⟨Φ, Hs, s, b, s', T, r, e, k⟩ := h
  injection e with e
  injection e with e1 e2
  subst e1
  subst e2
  exact k H Hs (Ex.refl _) r
theorem so_some {f : FE} (σ : L2.St) (H : Hp) (Q : Option Int → Hp → Prop) (h : tO K cl (someO f) σ H Q) : tPart (tE K cl f) σ H Q := by
  obtain ⟨Φ, Hs, s, b, s', T, r, e, k⟩ := h
  unfold someO at e
  split at e
  · rename_i i s1 q
    injection e with e
    injection e with e1 e2
    subst e1
    subst e2
    refine ⟨Φ, Hs, s, _, _, T, r, q, fun v H1 Hs1 x1 r1 h1 => ?_⟩
    have h1 : Rep Φ.C Hs1 v (.int i) := h1
    cases h1
    exact ⟨i, rfl, k H1 Hs1 x1 r1⟩
  · cases e
def rSlAny (K : PySem.W.Frag) : V → Option Int → Option Int → Hp → VK → Prop := fun x lo hi H Q => (rSlL K x lo hi H Q ∨ rSlA K x lo hi H Q) ∨ rSlS x lo hi H Q
theorem sl_any {X : Cx} : SlR X (rSlAny X.K) := (sl_list.or sl_tupA).or sl_str
theorem reps_cut {C : Ctx} {H : Hp} {xs : List V} {ds : List D} (h : Reps C H xs ds) (lo hi : Option Int) : Reps C H (cutV xs lo hi) (cutD ds lo hi) := by
  unfold cutV cutD
  rw [h.length]
  exact (h.drop _).take _
theorem cut_whole {α : Type} (xs : List α) (lo hi : Option Int) (h : HT.sIx xs.length 0 lo = 0 ∧ HT.sIx xs.length xs.length hi = xs.length) : cutD xs lo hi = xs := by
  unfold cutD
  rw [h.1, h.2]
  show (xs.take (xs.length - 0)) = xs
  rw [Nat.sub_zero, List.take_length]
theorem se_sl {f : FE} {lo hi : FO} (σ : L2.St) (H : Hp) (Q : VK) (h : tE K cl (slE f lo hi) σ H Q) : tSl (rSlAny K) (tE K cl f) (tO K cl lo) (tO K cl hi) σ H Q := by
  obtain ⟨Φ, Hs, s, b, s', T, r, e, k⟩ := h
  unfold slE at e
  cases q1 : f s with
  | none => rw [q1] at e; cases e
  | some y =>
    obtain ⟨b1, s1⟩ := y
    rw [q1] at e
    simp only at e
    cases q2 : lo s1 with
    | none => rw [q2] at e; cases e
    | some y =>
      obtain ⟨l, s2⟩ := y
      rw [q2] at e
      simp only at e
      cases q3 : hi s2 with
      | none => rw [q3] at e; cases e
      | some y =>
        obtain ⟨u, s3⟩ := y
        rw [q3] at e
        simp only at e
        cases q4 : cont s3 (settle b1) with
        | none => rw [q4] at e; cases e
        | some d =>
          rw [q4] at e
          simp only at e
          cases q5 : slD l u d with
          | none => rw [q5] at e; cases e
          | some b2 =>
            rw [q5] at e
            injection e with e
            injection e with e1 e2
            subst e1
            subst e2
            refine ⟨Φ, Hs, s, b1, s1, T, r, q1, fun v H1 Hs1 x1 r1 h1 => ?_⟩
            obtain ⟨Hs2, x2, r2, h2⟩ := settled r1 h1
            refine ⟨Φ, Hs2, s1, l, s2, T, r2, q2, fun H3 Hs3 x3 r3 => ?_⟩
            refine ⟨Φ, Hs3, s2, u, s3, T, r3, q3, fun H4 Hs4 x4 r4 => ?_⟩
            have hc : conts s3 [settle b1] = some [d] := by
              unfold conts
              rw [q4]
              rfl
            obtain ⟨z, hz, ho⟩ := (opds_of r4 (h2.mono (x3.trans x4)) hc).one
            injection hz with hz _
            subst hz
            have k' : ∀ v H' Hs', Ex Hs4 Hs' → Rs Φ Hs' s3 σ H' → RB Φ Hs' s3 σ H' v b2 → Q v H' := fun v H' Hs' xx rr hh => k v H' Hs' (x1.trans (x2.trans (x3.trans (x4.trans xx)))) rr hh
            unfold slD at q5
            split at q5
            · injection q5 with q5
              subst q5
              obtain ⟨p, xs, rfl, w1, w2⟩ := ho
              exact .inl (.inl ⟨p, xs, rfl, SqL.of w1, fun l hp => fin_lst r4 k' hp (reps_cut w2 _ _)⟩)
            · injection q5 with q5
              subst q5
              obtain ⟨p, xs, rfl, t1, w1, w2⟩ := opd_tup r4.ex ho
              rw [T.k] at t1
              refine .inl (.inr ⟨p, xs, rfl, t1, fun hw => ?_, fun _ l hp => fin_tup r4 k' hp (reps_cut w1 _ _)⟩)
              rw [w1.length] at hw
              rw [cut_whole _ _ _ hw] at k'
              exact fin_st r4 k' (.tup w2 w1)
            · rename_i x
              split at q5
              · rename_i hl
                injection q5 with q5
                subst q5
                rw [opd_str ho]
                exact .inr ⟨_, rfl, by rw [line_eq]; exact hl, fin_st r4 k' (.str _)⟩
              · cases q5
            · cases q5
/-! ### displays -/
def dispE (mk : List D → BV) (f : FA) : FE := fun s => match f s with
  | some (bs, s1) => match conts s1 bs with
    | some ds => match frozs bs s1 with
      | some s2 => if ds.length ≤ lineN then some (mk ds, s2) else none
      | none => none
    | none => none
  | none => none
def mkLst (ds : List D) : BV := .fr (.lst ds)
def mkTup (ds : List D) : BV := .st (.tup ds)
theorem disp_ok {mk : List D → BV} {f : FA} (σ : L2.St) (H : Hp) (Q : VK) (h : tE K cl (dispE mk f) σ H Q) : tA K cl f σ H fun xs H1 => xs.length ≤ sizeLine ∧ ∃ Φ Hs s ds, Tie K cl Φ ∧ Rs Φ Hs s σ H1 ∧ Reps Φ.C Hs xs ds ∧
    ∀ v H' Hs', Ex Hs Hs' → Rs Φ Hs' s σ H' → RB Φ Hs' s σ H' v (mk ds) → Q v H' := by
  obtain ⟨Φ, Hs, s, b, s', T, r, e, k⟩ := h
  unfold dispE at e
  cases q1 : f s with
  | none => rw [q1] at e; cases e
  | some y =>
    obtain ⟨bs, s1⟩ := y
    rw [q1] at e
    simp only at e
    cases q2 : conts s1 bs with
    | none => rw [q2] at e; cases e
    | some ds =>
      rw [q2] at e
      simp only at e
      cases q3 : frozs bs s1 with
      | none => rw [q3] at e; cases e
      | some s2 =>
        rw [q3] at e
        simp only at e
        by_cases hl : ds.length ≤ lineN
        · rw [if_pos hl] at e
          injection e with e
          injection e with e1 e2
          subst e1
          subst e2
          refine ⟨Φ, Hs, s, bs, s1, T, r, q1, fun vs H1 Hs1 x1 r1 h1 => ?_⟩
          obtain ⟨Hs2, x2, r2, h2, _⟩ := frozs_ok r1 h1 q2 q3
          refine ⟨by rw [line_eq, h2.length]; exact hl, Φ, Hs2, s2, ds, T, r2, h2, fun v H' Hs' xx rr hh => k v H' Hs' (x1.trans (x2.trans xx)) rr hh⟩
        · rw [if_neg hl] at e
          cases e
theorem tA_mono {f : FA} {σ : L2.St} {H : Hp} {Q Q' : List V → Hp → Prop} (h : tA K cl f σ H Q) (hq : ∀ vs H, Q vs H → Q' vs H) : tA K cl f σ H Q' := by
  obtain ⟨Φ, Hs, s, b, s', T, r, e, k⟩ := h
  exact ⟨Φ, Hs, s, b, s', T, r, e, fun v H' Hs' a b c => hq _ _ (k v H' Hs' a b c)⟩
theorem se_lst {f : FA} (σ : L2.St) (H : Hp) (Q : VK) (h : tE K cl (dispE mkLst f) σ H Q) : tLst (tA K cl f) σ H Q :=
  tA_mono (disp_ok σ H Q h) fun xs H1 ⟨hl, Φ, Hs, s, ds, T, r, hr, k⟩ => ⟨hl, fun p hp => fin_lst r k hp hr⟩
theorem se_tup {f : FA} (σ : L2.St) (H : Hp) (Q : VK) (h : tE K cl (dispE mkTup f) σ H Q) : tTup (tA K cl f) σ H Q :=
  tA_mono (disp_ok σ H Q h) fun xs H1 ⟨hl, Φ, Hs, s, ds, T, r, hr, k⟩ => ⟨hl, fun p hp => fin_tup r k hp hr⟩
end
/-! ### built-in functions -/
section
variable {cl : Str → Option Addr} {K : PySem.W.Frag}
def pLen : List D → Option BV
  | [.scr ns] => some (.st (.int ns.length))
  | [.str x] => if x.length ≤ lineN then some (.st (.int x.length)) else none
  | [.lst xs] => some (.st (.int xs.length))
  | [.tup xs] => some (.st (.int xs.length))
  | _ => none
def rLenV (K : PySem.W.Frag) : List V → Hp → VK → Prop := fun xs H Q => ∃ x n, xs = [x] ∧ LenV K x H n ∧ Q (.int n) H
theorem p_len : POk K cl (rLenV K) pLen := by
  intro Φ Hs s σ H vs ds b T r ho e Q k
  unfold pLen at e
  split at e
  · injection e with e
    subst e
    obtain ⟨x, rfl, h1⟩ := ho.one
    cases h1 with
    | scr h =>
      have h := ex_l r.ex h
      rw [T.k] at h
      refine ⟨_, _, rfl, .inl ⟨_, h, rfl⟩, ?_⟩
      rw [List.length_map]
      exact fin_st r k (.int _)
  · split at e
    · rename_i hl
      injection e with e
      subst e
      obtain ⟨x, rfl, h1⟩ := ho.one
      rw [opd_str h1]
      exact ⟨_, _, rfl, ⟨by rw [line_eq]; exact hl, rfl⟩, fin_st r k (.int _)⟩
    · cases e
  · injection e with e
    subst e
    obtain ⟨x, rfl, p, xs, rfl, h1, h2⟩ := ho.one
    exact ⟨_, _, rfl, .inl ⟨xs, SqL.of h1, h2.length.symm⟩, fin_st r k (.int _)⟩
  · injection e with e
    subst e
    obtain ⟨x, rfl, h1⟩ := ho.one
    obtain ⟨p, xs, rfl, t1, r1, u1⟩ := opd_tup r.ex h1
    rw [T.k] at t1
    exact ⟨_, _, rfl, .inr ⟨xs, t1, r1.length.symm⟩, fin_st r k (.int _)⟩
  · cases e
def pList : List D → Option BV
  | [.lst xs] => some (.fr (.lst xs))
  | [.tup xs] => some (.fr (.lst xs))
  | _ => none
def rListV (K : PySem.W.Frag) : List V → Hp → VK → Prop := fun xs H Q => ∃ p ys, xs = [.ref p] ∧ (SqL K H p ys ∨ SqT K H p ys) ∧ ∀ l, H l = none → Q (.ref l) (upd H l (.lst ys))
theorem p_list : POk K cl (rListV K) pList := by
  intro Φ Hs s σ H vs ds b T r ho e Q k
  unfold pList at e
  split at e
  · injection e with e
    subst e
    obtain ⟨x, rfl, p, xs, rfl, h1, h2⟩ := ho.one
    exact ⟨p, xs, rfl, .inl (SqL.of h1), fun l hp => fin_lst r k hp h2⟩
  · injection e with e
    subst e
    obtain ⟨x, rfl, h1⟩ := ho.one
    obtain ⟨p, xs, rfl, t1, r1, u1⟩ := opd_tup r.ex h1
    rw [T.k] at t1
    exact ⟨p, xs, rfl, .inr t1, fun l hp => fin_lst r k hp r1⟩
  · cases e
def pTuple : List D → Option BV
  | [.lst xs] => some (.st (.tup xs))
  | [.tup xs] => some (.st (.tup xs))
  | _ => none
def rTupleV (K : PySem.W.Frag) : List V → Hp → VK → Prop := fun xs H Q => ∃ p ys, xs = [.ref p] ∧ ((SqL K H p ys ∧ ∀ l, H l = none → Q (.ref l) (upd H l (.tup ys))) ∨ (SqT K H p ys ∧ Q (.ref p) H))
theorem p_tuple : POk K cl (rTupleV K) pTuple := by
  intro Φ Hs s σ H vs ds b T r ho e Q k
  unfold pTuple at e
  split at e
  · injection e with e
    subst e
    obtain ⟨x, rfl, p, xs, rfl, h1, h2⟩ := ho.one
    exact ⟨p, xs, rfl, .inl ⟨SqL.of h1, fun l hp => fin_tup r k hp h2⟩⟩
  · injection e with e
    subst e
    obtain ⟨x, rfl, h1⟩ := ho.one
    obtain ⟨p, xs, rfl, t1, r1, u1⟩ := opd_tup r.ex h1
    rw [T.k] at t1
    exact ⟨p, xs, rfl, .inr ⟨t1, fin_st r k (.tup u1 r1)⟩⟩
  · cases e
def pInt : List D → Option BV
  | [.int i] => some (.st (.int i))
  | [.bl b] => some (.st (.int (if b then 1 else 0)))
  | _ => none
theorem p_int : POk K cl (fun xs H Q => (∃ i, xs = [.int i] ∧ Q (.int i) H) ∨ ∃ k, xs = [.bl k] ∧ Q (.int (if k then 1 else 0)) H) pInt := by
  intro Φ Hs s σ H vs ds b T r ho e Q k
  unfold pInt at e
  split at e
  · injection e with e
    subst e
    obtain ⟨x, rfl, h1⟩ := ho.one
    rw [opd_int h1]
    exact .inl ⟨_, rfl, fin_st r k (.int _)⟩
  · injection e with e
    subst e
    obtain ⟨x, rfl, h1⟩ := ho.one
    rw [opd_bl h1]
    exact .inr ⟨_, rfl, fin_st r k (.int _)⟩
  · cases e
def pAbs : List D → Option BV
  | [.int i] => some (.st (.int (if i < 0 then -i else i)))
  | _ => none
theorem p_abs : POk K cl (fun xs H Q => ∃ i, xs = [.int i] ∧ Q (.int (if i < 0 then -i else i)) H) pAbs := by
  intro Φ Hs s σ H vs ds b T r ho e Q k
  unfold pAbs at e
  split at e
  · injection e with e
    subst e
    obtain ⟨x, rfl, h1⟩ := ho.one
    rw [opd_int h1]
    exact ⟨_, rfl, fin_st r k (.int _)⟩
  · cases e
def pMax2 : List D → Option BV
  | [.int i, .int j] => some (.st (.int (if j > i then j else i)))
  | _ => none
theorem p_max2 : POk K cl (fun xs H Q => ∃ i j, xs = [.int i, .int j] ∧ Q (.int (if j > i then j else i)) H) pMax2 := by
  intro Φ Hs s σ H vs ds b T r ho e Q k
  unfold pMax2 at e
  split at e
  · injection e with e
    subst e
    obtain ⟨x, y, rfl, h1, h2⟩ := ho.two
    rw [opd_int h1, opd_int h2]
    exact ⟨_, _, rfl, fin_st r k (.int _)⟩
  · cases e
def pMin2 : List D → Option BV
  | [.int i, .int j] => some (.st (.int (if j < i then j else i)))
  | _ => none
theorem p_min2 : POk K cl (fun xs H Q => ∃ i j, xs = [.int i, .int j] ∧ Q (.int (if j < i then j else i)) H) pMin2 := by
  intro Φ Hs s σ H vs ds b T r ho e Q k
  unfold pMin2 at e
  split at e
  · injection e with e
    subst e
    obtain ⟨x, y, rfl, h1, h2⟩ := ho.two
    rw [opd_int h1, opd_int h2]
    exact ⟨_, _, rfl, fin_st r k (.int _)⟩
  · cases e
/-- a list of bools, read -/
def blsD : List D → Option (List Bool)
  | [] => some []
  | .bl b :: r => match blsD r with
    | some bs => some (b :: bs)
    | none => none
  | _ => none
theorem bls_reps {C : Ctx} {H : Hp} : ∀ {xs : List V} {ds : List D} {bs : List Bool}, Reps C H xs ds → blsD ds = some bs → xs = bs.map V.bl
  | _, _, _, .nil, e => by
    injection e with e
    subst e
    rfl
  | _, _, _, .cons (d := d) (ds := ds) h t, e => by
    cases h with
    | bl b =>
      unfold blsD at e
      cases q : blsD ds with
      | none => rw [q] at e; cases e
      | some bs =>
        rw [q] at e
        injection e with e
        subst e
        rw [bls_reps t q]
        rfl
    | non => cases e
    | int _ => cases e
    | str _ => cases e
    | lst _ _ => cases e
    | tup _ _ => cases e
    | dct _ _ => cases e
    | obj _ _ _ => cases e
    | dice _ => cases e
    | adr _ => cases e
    | scr _ => cases e
    | exc _ _ _ => cases e
def pAll : List D → Option BV
  | [.lst xs] => match blsD xs with
    | some bs => some (.st (.bl (bs.all id)))
    | none => none
  | _ => none
theorem p_all : POk K cl (rAll K) pAll := by
  intro Φ Hs s σ H vs ds b T r ho e Q k
  unfold pAll at e
  split at e
  · split at e
    · rename_i bs q
      injection e with e
      subst e
      obtain ⟨x, rfl, p, xs, rfl, h1, h2⟩ := ho.one
      have z := bls_reps h2 q
      subst z
      exact ⟨p, bs, rfl, SqL.of h1, fin_st r k (.bl _)⟩
    · cases e
  · cases e
def pAny : List D → Option BV
  | [.lst xs] => match blsD xs with
    | some bs => some (.st (.bl (bs.any id)))
    | none => none
  | _ => none
theorem p_any : POk K cl (rAny K) pAny := by
  intro Φ Hs s σ H vs ds b T r ho e Q k
  unfold pAny at e
  split at e
  · split at e
    · rename_i bs q
      injection e with e
      subst e
      obtain ⟨x, rfl, p, xs, rfl, h1, h2⟩ := ho.one
      have z := bls_reps h2 q
      subst z
      exact ⟨p, bs, rfl, SqL.of h1, fin_st r k (.bl _)⟩
    · cases e
  · cases e
end
end DL


set_option Elab.async false
set_option linter.all false
set_option maxRecDepth 100000
set_option maxHeartbeats 2000000
/-! THE DATA LAYER, part 8: methods, own objects changed, what is walked -/
namespace DL
open PySem PySem.Spec PyProof.Rows L2

/-! ### o.m(..) of a built-in type: read only -/
def tyD (T : String) : D → Bool
  | .str _ => T == "str"
  | .lst _ => T == "list"
  | .dct _ => T == "dict"
  | _ => false
def bmE (T : String) (pf : List D → Option BV) (f : FE) (g : FA) : FE := fun s => match f s with
  | some (b, s1) => match cont s1 (settle b) with
    | some d0 => if tyD T d0 then (match g s1 with
      | some (bs, s2) => match conts s2 (settle b :: bs) with
        | some ds => match pf ds with
          | some (.st d) => some (.st d, s2)
          | some (.fr d) => some (.fr d, s2)
          | _ => none
        | none => none
      | none => none) else none
    | none => none
  | none => none
/-! ### o.m(..) that changes the own object of a slot -/
def ownM (T : String) (mf : D → List D → Option (D × D)) (f : FE) (g : FA) : FE := fun s => match f s with
  | some (.ow i, s1) => match slotC s1.ρ[i]? with
    | some d0 => if tyD T d0 then (match g s1 with
      | some (bs, s2) => match conts s2 bs with
        | some ds => match frozs bs s2 with
          | some s3 => match s3.ρ[i]? with
            | some (some (.own x)) => match mf x ds with
              | some (d, x') => some (.st d, { s3 with ρ := s3.ρ.set i (some (.own x')) })
              | none => none
            | _ => none
          | none => none
        | none => none
      | none => none) else none
    | none => none
  | _ => none
def r0M (r : V → List V → Hp → VK → Prop) : List V → Hp → VK → Prop := fun vs H Q => ∃ x xs, vs = x :: xs ∧ r x xs H Q
def MOk (r : V → List V → Hp → VK → Prop) (mf : D → List D → Option (D × D)) : Prop :=
  ∀ (C : Ctx) (Hs H : Hp) (p : Addr) (x : D) (vs : List V) (ds : List D) (d x' : D), Ex Hs H → OwnAt C Hs H p x → Reps C Hs vs ds → mf x ds = some (d, x') →
    ∀ Q : VK, (∀ v o, Rep C Hs v d → OwnAt C Hs (upd H p o) p x' → Q v (upd H p o)) → r (.ref p) vs H Q
section
variable {cl : Str → Option Addr} {K : PySem.W.Frag}
theorem ty_opd {C : Ctx} {Hs H : Hp} {T : String} {v : V} {d : D} (hk : C.K = K) (h : Opd C Hs H v d) (t : tyD T d = true) : tyV K T v H := by
  cases d with
  | str x =>
    rw [opd_str h]
    exact eq_of_beq t
  | lst xs =>
    obtain ⟨p, ys, rfl, h1, h2⟩ := h
    exact .inl ⟨eq_of_beq t, ys, SqL.of h1⟩
  | dct xs =>
    obtain ⟨p, ys, rfl, h1, h2⟩ := h
    exact .inr (.inr (.inl ⟨eq_of_beq t, .inl ⟨ys, h1⟩⟩))
  | non => cases t
  | bl _ => cases t
  | int _ => cases t
  | tup _ => cases t
  | obj _ _ => cases t
  | dice => cases t
  | adr _ => cases t
  | scr _ => cases t
  | exc _ _ => cases t
theorem se_bm {T : String} {pf : List D → Option BV} {f : FE} {g : FA} {r : V → List V → Hp → VK → Prop} (hp : POk K cl (r0M r) pf) (σ : L2.St) (H : Hp) (Q : VK) (h : tE K cl (bmE T pf f g) σ H Q) :
    tBM K T r (tE K cl f) (tA K cl g) σ H Q := by
  obtain ⟨Φ, Hs, s, b, s', TT, rr, e, k⟩ := h
  unfold bmE at e
  cases q1 : f s with
  | none => rw [q1] at e; cases e
  | some y =>
    obtain ⟨b1, s1⟩ := y
    rw [q1] at e
    simp only at e
    cases q2 : cont s1 (settle b1) with
    | none => rw [q2] at e; cases e
    | some d0 =>
      rw [q2] at e
      simp only at e
      by_cases ht : tyD T d0 = true
      · rw [if_pos ht] at e
        cases q3 : g s1 with
        | none => rw [q3] at e; cases e
        | some y =>
          obtain ⟨bs, s2⟩ := y
          rw [q3] at e
          simp only at e
          cases q4 : conts s2 (settle b1 :: bs) with
          | none => rw [q4] at e; cases e
          | some ds =>
            rw [q4] at e
            simp only at e
            refine ⟨Φ, Hs, s, b1, s1, TT, rr, q1, fun v H1 Hs1 x1 r1 h1 => ?_⟩
            obtain ⟨Hs2, x2, r2, h2⟩ := settled r1 h1
            have hc : conts s1 [settle b1] = some [d0] := by
              unfold conts
              rw [q2]
              rfl
            obtain ⟨z, hz, ho⟩ := (opds_of r2 h2 hc).one
            injection hz with hz _
            subst hz
            refine ⟨ty_opd TT.k ho ht, Φ, Hs2, s1, bs, s2, TT, r2, q3, fun vs H3 Hs3 x3 r3 h3 => ?_⟩
            have k' : ∀ v H' Hs', Ex Hs3 Hs' → Rs Φ Hs' s2 σ H' → ∀ b2, pf ds = some b2 → RB Φ Hs' s2 σ H' v b2 → Q v H' := fun v H' Hs' xx r4 b2 e2 hh => by
              rw [e2] at e
              cases b2 with
              | st d =>
                injection e with e
                injection e with e3 e4
                subst e3
                subst e4
                exact k v H' Hs' (x1.trans (x2.trans (x3.trans xx))) r4 hh
              | fr d =>
                injection e with e
                injection e with e3 e4
                subst e3
                subst e4
                exact k v H' Hs' (x1.trans (x2.trans (x3.trans xx))) r4 hh
              | ow i => cases e
            cases q5 : pf ds with
            | none => rw [q5] at e; cases e
            | some b2 =>
              obtain ⟨x0, xs0, hx, hr⟩ := hp Φ Hs3 s2 σ H3 (v :: vs) ds b2 TT r3 (opds_of r3 (RBs.cons1 (h2.mono x3) h3) q4) q5 Q (fun v H' Hs' xx r4 hh => k' v H' Hs' xx r4 b2 q5 hh)
              injection hx with hx1 hx2
              subst hx1
              subst hx2
              exact hr
      · rw [if_neg ht] at e
        cases e
theorem se_ownM {T : String} {mf : D → List D → Option (D × D)} {f : FE} {g : FA} {r : V → List V → Hp → VK → Prop} (hm : MOk r mf) (σ : L2.St) (H : Hp) (Q : VK) (h : tE K cl (ownM T mf f g) σ H Q) :
    tBM K T r (tE K cl f) (tA K cl g) σ H Q := by
  obtain ⟨Φ, Hs, s, b, s', TT, rr, e, k⟩ := h
  unfold ownM at e
  split at e
  · rename_i i s1 q1
    cases q2 : slotC s1.ρ[i]? with
    | none => rw [q2] at e; cases e
    | some d0 =>
      rw [q2] at e
      simp only at e
      by_cases ht : tyD T d0 = true
      · rw [if_pos ht] at e
        cases q3 : g s1 with
        | none => rw [q3] at e; cases e
        | some y =>
          obtain ⟨bs, s2⟩ := y
          rw [q3] at e
          simp only at e
          cases q4 : conts s2 bs with
          | none => rw [q4] at e; cases e
          | some ds =>
            rw [q4] at e
            simp only at e
            cases q5 : frozs bs s2 with
            | none => rw [q5] at e; cases e
            | some s3 =>
              rw [q5] at e
              simp only at e
              split at e
              · rename_i x q6
                cases q7 : mf x ds with
                | none => rw [q7] at e; cases e
                | some y =>
                  obtain ⟨d, x'⟩ := y
                  rw [q7] at e
                  injection e with e
                  injection e with e1 e2
                  subst e1
                  subst e2
                  refine ⟨Φ, Hs, s, .ow i, s1, TT, rr, q1, fun v H1 Hs1 x1 r1 h1 => ?_⟩
                  refine ⟨ty_opd TT.k (opd_slot r1 h1.1 q2) ht, Φ, Hs1, s1, bs, s2, TT, r1, q3, fun vs H3 Hs3 x3 r3 h3 => ?_⟩
                  obtain ⟨Hs4, x4, r4, h4, _⟩ := frozs_ok r3 h3 q4 q5
                  obtain ⟨p, w1, w2, w3, w4, w5⟩ := r4.own i x q6
                  have hv : v = .ref p := by
                    have := h1.1.symm.trans w1
                    injection this with this
                    injection this
                  subst hv
                  exact hm Φ.C Hs4 H3 p x vs ds d x' r4.ex w5 h4 q7 Q fun v o hr ho => k v _ Hs4 (x1.trans (x3.trans x4)) (r4.wrote q6 w1 ho) hr
              · cases e
      · rw [if_neg ht] at e
        cases e
  · cases e
/-! ### lists of one's own -/
def mAppend : D → List D → Option (D × D)
  | .lst xs, [d] => if xs.length < lineN then some (.non, .lst (xs ++ [d])) else none
  | _, _ => none
theorem m_append : MOk rAppend mAppend := by
  intro C Hs H p x vs ds d x' hx ho hr e Q k
  unfold mAppend at e
  split at e
  · rename_i xs y
    split at e
    · rename_i hl
      injection e with e
      injection e with e1 e2
      subst e1
      subst e2
      obtain ⟨ys, h1, h2⟩ := ho
      cases hr with
      | cons h3 h4 =>
        cases h4
        refine ⟨p, ys, _, rfl, rfl, h1, ?_, k _ _ .non ⟨_, upd_same, h2.append (.one h3)⟩⟩
        rw [line_eq, h2.length]
        exact hl
    · cases e
  · cases e
def mExtend : D → List D → Option (D × D)
  | .lst xs, [.lst ys] => if xs.length + ys.length ≤ lineN then some (.non, .lst (xs ++ ys)) else none
  | _, _ => none
theorem m_extend : MOk rExtend mExtend := by
  intro C Hs H p x vs ds d x' hx ho hr e Q k
  unfold mExtend at e
  split at e
  · rename_i xs y
    split at e
    · rename_i hl
      injection e with e
      injection e with e1 e2
      subst e1
      subst e2
      obtain ⟨ys, h1, h2⟩ := ho
      cases hr with
      | cons h3 h4 =>
        cases h4
        cases h3 with
        | lst h5 h6 =>
          refine ⟨p, _, ys, _, rfl, rfl, h1, hx _ _ h5, ?_, k _ _ .non ⟨_, upd_same, h2.append h6⟩⟩
          rw [line_eq, h2.length, h6.length]
          exact hl
    · cases e
  · cases e
def mPop : D → List D → Option (D × D)
  | .lst xs, [] => match xs[xs.length - 1]? with
    | some d => some (d, .lst xs.dropLast)
    | none => none
  | _, _ => none
theorem m_pop : MOk rPop mPop := by
  intro C Hs H p x vs ds d x' hx ho hr e Q k
  unfold mPop at e
  split at e
  · rename_i xs
    split at e
    · rename_i d0 q
      injection e with e
      injection e with e1 e2
      subst e1
      subst e2
      obtain ⟨ys, h1, h2⟩ := ho
      cases hr
      obtain ⟨v, w1, w2⟩ := h2.get q
      refine ⟨p, ys, v, rfl, rfl, h1, ?_, k _ _ w2 ⟨_, upd_same, h2.dropLast⟩⟩
      rw [h2.length]
      exact w1
    · cases e
  · cases e
def mPopAt : D → List D → Option (D × D)
  | .lst xs, [.int i] => if decide (-(2 ^ 63) ≤ i) && decide (i < 2 ^ 63) then (match ixN xs.length i with
    | some j => match xs[j]? with
      | some d => some (d, .lst (xs.eraseIdx j))
      | none => none
    | none => none) else none
  | _, _ => none
theorem m_popAt : MOk rPopAt mPopAt := by
  intro C Hs H p x vs ds d x' hx ho hr e Q k
  unfold mPopAt at e
  split at e
  · rename_i xs i
    split at e
    · rename_i hb
      rw [Bool.and_eq_true] at hb
      split at e
      · rename_i j qj
        split at e
        · rename_i d0 q
          injection e with e
          injection e with e1 e2
          subst e1
          subst e2
          obtain ⟨ys, h1, h2⟩ := ho
          cases hr with
          | cons h3 h4 =>
            cases h4
            cases h3
            obtain ⟨v, w1, w2⟩ := h2.get q
            refine ⟨p, ys, i, j, v, rfl, rfl, h1, of_decide_eq_true hb.1, of_decide_eq_true hb.2, ?_, w1, k _ _ w2 ⟨_, upd_same, h2.eraseIdx j⟩⟩
            rw [h2.length]
            exact (ixN_seq qj).1
        · cases e
      · cases e
    · cases e
  · cases e
/-- pop() and pop(i) -/
def mPopA : D → List D → Option (D × D)
  | x, [] => mPop x []
  | x, ds => mPopAt x ds
theorem m_popA : MOk (fun x vs H Q => rPop x vs H Q ∨ rPopAt x vs H Q) mPopA := by
  intro C Hs H p x vs ds d x' hx ho hr e Q k
  unfold mPopA at e
  split at e
  · exact .inl (m_pop C Hs H p x vs [] d x' hx ho hr e Q k)
  · exact .inr (m_popAt C Hs H p x vs _ d x' hx ho hr e Q k)
/-! ### xs[i] = v of an own list -/
def mSet (i v : D) : D → Option D
  | .lst xs => match i with
    | .int k => match ixN xs.length k with
      | some j => some (.lst (xs.set j v))
      | none => none
    | _ => none
  | _ => none
/-- o[i] = e, e first -/
def setIxS (f g h : FE) : FS := fun s => match f s with
  | some (b, s1) => match froz s1 b with
    | some (d, s2) => match g s2 with
      | some (.ow i, s3) => match h s3 with
        | some (.st ix, s4) => match s4.ρ[i]? with
          | some (some (.own x)) => match mSet ix d x with
            | some x' => some (.nx, { s4 with ρ := s4.ρ.set i (some (.own x')) })
            | none => none
          | _ => none
        | _ => none
      | _ => none
    | none => none
  | none => none
theorem ss_setIx {f g h : FE} (D : Ends) (σ : L2.St) (H : Hp) (hh : tS K cl (setIxS f g h) D σ H) : tAsg (tE K cl f) (gSub (tE K cl g) (tE K cl h) rSetL) D σ H := by
  obtain ⟨Φ, Hs, s, o, s', T, r, e, k⟩ := hh
  unfold setIxS at e
  cases q1 : f s with
  | none => rw [q1] at e; cases e
  | some y =>
    obtain ⟨b, s1⟩ := y
    rw [q1] at e
    simp only at e
    cases q2 : froz s1 b with
    | none => rw [q2] at e; cases e
    | some y =>
      obtain ⟨d, s2⟩ := y
      rw [q2] at e
      simp only at e
      split at e
      · rename_i i s3 q3
        split at e
        · rename_i ix s4 q4
          split at e
          · rename_i x q5
            cases q6 : mSet ix d x with
            | none => rw [q6] at e; cases e
            | some x' =>
              rw [q6] at e
              injection e with e
              injection e with e1 e2
              subst e1
              subst e2
              refine ⟨Φ, Hs, s, b, s1, T, r, q1, fun v H1 Hs1 x1 r1 h1 => ?_⟩
              obtain ⟨Hs2, x2, r2, h2⟩ := froz_ok r1 h1 q2
              refine ⟨Φ, Hs2, s2, _, _, T, r2, q3, fun v3 H3 Hs3 x3 r3 h3 => ?_⟩
              refine ⟨Φ, Hs3, s3, _, _, T, r3, q4, fun v4 H4 Hs4 x4 r4 h4 => ?_⟩
              have h4 : Rep Φ.C Hs4 v4 ix := h4
              obtain ⟨p, w1, w2, w3, w4, w5⟩ := r4.own i x q5
              have hv : v3 = .ref p := by
                have := h3.1.symm.trans w1
                injection this with this
                injection this
              subst hv
              unfold mSet at q6
              split at q6
              · split at q6
                · split at q6
                  · rename_i j qj
                    injection q6 with q6
                    subst q6
                    obtain ⟨ys, u1, u2⟩ := w5
                    cases h4
                    refine ⟨p, ys, _, j, rfl, rfl, u1, by rw [u2.length]; exact qj, ?_⟩
                    exact k σ _ Hs4 (x1.trans (x2.trans (x3.trans x4))) (r4.wrote q5 w1 ⟨_, upd_same, u2.set (h2.mono (x3.trans x4)) j⟩)
                  · cases q6
                · cases q6
              · cases q6
          · cases e
        · cases e
      · cases e
end
/-! ### what a loop walks -/
theorem PI.or {X : Cx} {tg e : Expr} {w1 w2 : TI} (h1 : PI X tg e w1) (h2 : PI X tg e w2) : PI X tg e (fun σ H R => w1 σ H R ∨ w2 σ H R) := ⟨fun pins s σ H R I h => h.elim (h1.run pins s σ H R I) (h2.run pins s σ H R I)⟩
theorem PE.or {X : Cx} {e : Expr} {w1 w2 : TE} (h1 : PE X e w1) (h2 : PE X e w2) : PE X e (fun σ H R => w1 σ H R ∨ w2 σ H R) := ⟨fun pins s σ H R I h => h.elim (h1.run pins s σ H R I) (h2.run pins s σ H R I)⟩
def signsD (x : List Nat) : List D := x.map fun c => .str [c]
def seqOf : D → Option (List D)
  | .lst ds => some ds
  | .tup ds => some ds
  | .str x => some (signsD x)
  | _ => none
def seqI (f : FE) : FI := fun s => match f s with
  | some (b, s1) => match froz s1 b with
    | some (d, s2) => match seqOf d with
      | some ds => some (ds, s2)
      | none => none
    | none => none
  | none => none
def rangeL (a b : Int) : List D := (List.range (b - a).toNat).map fun i => .int (a + (i : Nat))
def okR (i : Int) : Bool := decide (-(2 ^ 62) ≤ i) && decide (i < 2 ^ 62)
theorem okR_ok {i : Int} (h : okR i = true) : -(2 ^ 62) ≤ i ∧ i < 2 ^ 62 := by
  unfold okR at h
  rw [Bool.and_eq_true] at h
  exact ⟨of_decide_eq_true h.1, of_decide_eq_true h.2⟩
def range1I (f : FA) : FI := fun s => match f s with
  | some ([.st (.int j)], s1) => if okR j then some (rangeL 0 j, s1) else none
  | _ => none
def range2I (f : FA) : FI := fun s => match f s with
  | some ([.st (.int i), .st (.int j)], s1) => if okR i && okR j then some (rangeL i j, s1) else none
  | _ => none
section
variable {cl : Str → Option Addr} {K : PySem.W.Frag}
def iSeq (K : PySem.W.Frag) (tl : TE) : TI := fun σ H R => (iList K tl σ H R ∨ iTup K tl σ H R) ∨ iStr tl σ H R
theorem pi_seq {X : Cx} {tg l : Expr} {tl : TE} (h : PE X l tl) : PI X tg l (iSeq X.K tl) := PI.or (PI.or (pi_list h) (pi_tup h)) (pi_str h)
theorem yd_at {C : Ctx} {Hs : Hp} {xs : List V} {ds : List D} (h : Reps C Hs xs ds) (i : Nat) (H : Hp) (x : V) (H' : Hp) (y : YAt xs i H x H') : YD C Hs ds i H x H' := by
  obtain ⟨rfl, e⟩ := y
  obtain ⟨d, e1, e2⟩ := h.get' e
  exact ⟨d, e1, .inl ⟨rfl, e2⟩⟩
theorem si_seq {f : FE} (σ : L2.St) (H : Hp) (R : It → Hp → Prop) (h : tI K cl (seqI f) σ H R) : iSeq K (tE K cl f) σ H R := by
  obtain ⟨Φ, Hs, s, ds, s', T, r, e, k⟩ := h
  unfold seqI at e
  cases q1 : f s with
  | none => rw [q1] at e; cases e
  | some y =>
    obtain ⟨b, s1⟩ := y
    rw [q1] at e
    simp only at e
    cases q2 : froz s1 b with
    | none => rw [q2] at e; cases e
    | some y =>
      obtain ⟨d, s2⟩ := y
      rw [q2] at e
      simp only at e
      cases q3 : seqOf d with
      | none => rw [q3] at e; cases e
      | some ds' =>
        rw [q3] at e
        injection e with e
        injection e with e1 e2
        subst e1
        subst e2
        unfold seqOf at q3
        split at q3
        · injection q3 with q3
          subst q3
          refine .inl (.inl ⟨Φ, Hs, s, b, s1, T, r, q1, fun v H1 Hs1 x1 r1 h1 => ?_⟩)
          obtain ⟨Hs2, x2, r2, h2⟩ := froz_ok r1 h1 q2
          cases h2 with
          | lst h3 h4 =>
            refine ⟨_, rfl, ⟨_, SqL.of (r2.ex _ _ h3)⟩, k _ H1 Hs2 (x1.trans x2) r2 ?_⟩
            rw [← h4.length]
            exact walk_list.mono (fun H3 x3 => SqL.of (x3 _ _ h3)) (fun i H3 x H4 _ _ y => yd_at h4 i H3 x H4 y)
        · injection q3 with q3
          subst q3
          refine .inl (.inr ⟨Φ, Hs, s, b, s1, T, r, q1, fun v H1 Hs1 x1 r1 h1 => ?_⟩)
          obtain ⟨Hs2, x2, r2, h2⟩ := froz_ok r1 h1 q2
          cases h2 with
          | tup h3 h4 =>
            rw [T.k] at h3
            refine ⟨_, rfl, ⟨_, ex_t r2.ex h3⟩, k _ H1 Hs2 (x1.trans x2) r2 ?_⟩
            rw [← h4.length]
            exact walk_tup.mono (fun H3 x3 => ex_t x3 h3) (fun i H3 x H4 _ _ y => yd_at h4 i H3 x H4 y)
        · rename_i x
          injection q3 with q3
          subst q3
          refine .inr ⟨Φ, Hs, s, b, s1, T, r, q1, fun v H1 Hs1 x1 r1 h1 => ?_⟩
          obtain ⟨Hs2, x2, r2, h2⟩ := froz_ok r1 h1 q2
          cases h2
          refine ⟨_, rfl, k _ H1 Hs2 (x1.trans x2) r2 ?_⟩
          have w := walk_str (z := mkS x)
          have hl : (signsD x).length = (mkS x).cps.size := by
            unfold signsD
            rw [List.length_map]
            rfl
          rw [hl]
          refine w.mono (fun _ _ => trivial) (fun i H3 v H4 _ _ y => ?_)
          obtain ⟨rfl, c, hc, rfl⟩ := y
          have hc' : x[i]? = some c := by
            have : (mkS x).cps[i]? = x[i]? := by
              show (x.toArray)[i]? = x[i]?
              rw [List.getElem?_toArray]
            rw [← this]
            exact hc
          refine ⟨.str [c], ?_, .inl ⟨rfl, .str [c]⟩⟩
          unfold signsD
          rw [List.getElem?_map, hc']
          rfl
        · cases q3
theorem range_get {a b : Int} {i : Nat} (h : i < (b - a).toNat) : (rangeL a b)[i]? = some (.int (a + (i : Nat))) := by
  unfold rangeL
  rw [List.getElem?_map, List.getElem?_range h]
  rfl
theorem range_len (a b : Int) : (rangeL a b).length = (b - a).toNat := by
  unfold rangeL
  rw [List.length_map, List.length_range]
theorem walk_rg {C : Ctx} {Hs : Hp} {a b : Int} : Walk (Itr a (b - a).toNat) (rangeL a b).length (fun H => Ex Hs H) (YD C Hs (rangeL a b)) := by
  have w := walk_range (lo := a) (n := (b - a).toNat)
  rw [range_len]
  refine w.mono (fun _ _ => trivial) (fun i H3 v H4 hi _ y => ?_)
  obtain ⟨rfl, rfl⟩ := y
  exact ⟨_, range_get hi, .inl ⟨rfl, .int _⟩⟩
theorem rbs_ints1 {Φ : Fx} {Hs : Hp} {σ : L2.St} {vs : List V} {j : Int} (h : RBs Φ Hs σ vs [.st (.int j)]) : vs = [.int j] := by
  cases h with
  | st h1 h2 =>
    cases h1
    cases h2
    rfl
theorem si_range1 {f : FA} (σ : L2.St) (H : Hp) (R : It → Hp → Prop) (h : tI K cl (range1I f) σ H R) : iRng1 (tA K cl f) σ H R := by
  obtain ⟨Φ, Hs, s, ds, s', T, r, e, k⟩ := h
  unfold range1I at e
  split at e
  · rename_i j s1 q
    split at e
    · rename_i hj
      injection e with e
      injection e with e1 e2
      subst e1
      subst e2
      refine ⟨Φ, Hs, s, _, _, T, r, q, fun vs H1 Hs1 x1 r1 h1 => ?_⟩
      have hr := okR_ok hj
      refine ⟨j, rbs_ints1 h1, hr.1, hr.2, k _ H1 Hs1 x1 r1 ?_⟩
      have w := walk_rg (C := Φ.C) (Hs := Hs1) (a := 0) (b := j)
      rw [Int.sub_zero] at w
      exact w
    · cases e
  · cases e
theorem si_range2 {f : FA} (σ : L2.St) (H : Hp) (R : It → Hp → Prop) (h : tI K cl (range2I f) σ H R) : iRng2 (tA K cl f) σ H R := by
  obtain ⟨Φ, Hs, s, ds, s', T, r, e, k⟩ := h
  unfold range2I at e
  split at e
  · rename_i i j s1 q
    split at e
    · rename_i hj
      rw [Bool.and_eq_true] at hj
      injection e with e
      injection e with e1 e2
      subst e1
      subst e2
      refine ⟨Φ, Hs, s, _, _, T, r, q, fun vs H1 Hs1 x1 r1 h1 => ?_⟩
      have hi := okR_ok hj.1
      have hjj := okR_ok hj.2
      have hv : vs = [.int i, .int j] := by
        cases h1 with
        | st h2 h3 =>
          cases h2
          rw [rbs_ints1 h3]
      exact ⟨i, j, hv, ⟨hi.1, hi.2, hjj.1, hjj.2⟩, k _ H1 Hs1 x1 r1 walk_rg⟩
    · cases e
  · cases e
end
end DL


set_option Elab.async false
set_option linter.all false
set_option maxRecDepth 100000
set_option maxHeartbeats 2000000
/-! THE DATA LAYER, further operations: isinstance, zip, enumerate, pairs stored at once, two clauses -/
namespace DL
open PySem PySem.Spec PyProof.Rows L2

/-! ### isinstance(x, T), T a built-in type -/
def tyName : D → Option String
  | .non => some "NoneType"
  | .bl _ => some "bool"
  | .int _ => some "int"
  | .str _ => some "str"
  | .lst _ => some "list"
  | .tup _ => some "tuple"
  | .dct _ => some "dict"
  | _ => none
/-- the answer, for the types that are asked for here -/
def isiB (a b : String) : Option Bool :=
  if ["NoneType", "bool", "int", "str", "list", "tuple", "dict"].contains a && ["bool", "int", "str", "list", "tuple", "dict"].contains b then some (a == b || (a == "bool" && b == "int")) else none
theorem isiB_all : (["NoneType", "bool", "int", "str", "list", "tuple", "dict"].all fun a => ["bool", "int", "str", "list", "tuple", "dict"].all fun b => decide (kitB a b = some (a == b || (a == "bool" && b == "int")))) = true := by decide +kernel
theorem isiB_ok {a b : String} {r : Bool} (h : isiB a b = some r) : kitB a b = some r := by
  unfold isiB at h
  split at h
  · rename_i hc
    rw [Bool.and_eq_true] at hc
    injection h with h
    have z := List.all_eq_true.mp isiB_all a (List.contains_iff_mem.mp hc.1)
    have z2 := List.all_eq_true.mp z b (List.contains_iff_mem.mp hc.2)
    rw [of_decide_eq_true z2, h]
  · cases h
def isiE (T : String) (f : FE) : FE := fun s => match f s with
  | some (b, s1) => match cont s1 b with
    | some d => match tyName d with
      | some t => match isiB t T with
        | some k => some (.st (.bl k), s1)
        | none => none
      | none => none
    | none => none
  | none => none
section
variable {cl : Str → Option Addr} {K : PySem.W.Frag}
theorem tyx_opd {C : Ctx} {Hs H : Hp} (hk : C.K = K) (x : Ex Hs H) {v : V} {d : D} {t : String} (h : Opd C Hs H v d) (e : tyName d = some t) : TyX K H v (.type t) := by
  cases d with
  | non => injection e with e; subst e; rw [opd_non h]; exact .base .non
  | bl _ => injection e with e; subst e; rw [opd_bl h]; exact .base (.bl _)
  | int _ => injection e with e; subst e; rw [opd_int h]; exact .base (.int _)
  | str _ => injection e with e; subst e; rw [opd_str h]; exact .base (.str _)
  | lst _ =>
    injection e with e
    subst e
    obtain ⟨p, xs, rfl, h1, _⟩ := h
    exact .base (.lst h1)
  | tup _ =>
    injection e with e
    subst e
    obtain ⟨p, xs, rfl, t1, _⟩ := opd_tup x h
    rw [hk] at t1
    rcases t1 with (t1 | ⟨o, t1⟩) | ⟨o, its, n, h1, h2, _⟩
    · exact .base (.tup t1)
    · exact .fTuple t1
    · exact .kTuple h1 h2
  | dct _ =>
    injection e with e
    subst e
    obtain ⟨p, xs, rfl, h1, _⟩ := h
    exact .base (.dK h1)
  | obj _ _ => cases e
  | dice => cases e
  | adr _ => cases e
  | scr _ => cases e
  | exc _ _ => cases e
theorem se_isi {T : String} {f : FE} (σ : L2.St) (H : Hp) (Q : VK) (h : tE K cl (isiE T f) σ H Q) : tCB (rIsi K) (tCons (tE K cl f) (tCons (tC (.ty T)) tNil)) σ H Q := by
  obtain ⟨Φ, Hs, s, b, s', TT, r, e, k⟩ := h
  unfold isiE at e
  cases q1 : f s with
  | none => rw [q1] at e; cases e
  | some y =>
    obtain ⟨b1, s1⟩ := y
    rw [q1] at e
    simp only at e
    cases q2 : cont s1 b1 with
    | none => rw [q2] at e; cases e
    | some d =>
      rw [q2] at e
      simp only at e
      cases q3 : tyName d with
      | none => rw [q3] at e; cases e
      | some t =>
        rw [q3] at e
        simp only at e
        cases q4 : isiB t T with
        | none => rw [q4] at e; cases e
        | some kk =>
          rw [q4] at e
          injection e with e
          injection e with e1 e2
          subst e1
          subst e2
          refine ⟨Φ, Hs, s, b1, s1, TT, r, q1, fun v H1 Hs1 x1 r1 h1 => ?_⟩
          have ty := tyx_opd TT.k r1.ex (RB.opd r1 h1 q2) q3
          exact ⟨v, .ty T, .type t, .type T, kk, rfl, .ty T, ty, kit_ty (isiB_ok q4), k _ H1 Hs1 x1 r1 (Rep.bl kk)⟩
/-! ### enumerate, zip: pairs -/
def pairsD : List D → List D → List D
  | a :: as, b :: bs => .tup [a, b] :: pairsD as bs
  | _, _ => []
theorem pairs_len : ∀ (as bs : List D), (pairsD as bs).length = min as.length bs.length
  | [], bs => by simp [pairsD]
  | a :: as, [] => by simp [pairsD]
  | a :: as, b :: bs => by
    show (pairsD as bs).length + 1 = _
    rw [pairs_len as bs, List.length_cons, List.length_cons]
    omega
theorem pairs_get : ∀ {as bs : List D} {i : Nat} {a b : D}, as[i]? = some a → bs[i]? = some b → (pairsD as bs)[i]? = some (.tup [a, b])
  | [], _, _, _, _, h, _ => by simp at h
  | _ :: _, [], _, _, _, _, h => by simp at h
  | x :: as, y :: bs, 0, a, b, h, h2 => by
    simp at h h2
    subst h
    subst h2
    rfl
  | x :: as, y :: bs, i + 1, a, b, h, h2 => by
    show (pairsD as bs)[i]? = _
    exact pairs_get (by simpa using h) (by simpa using h2)
/-- a walk of new pairs -/
theorem walk_pairs {C : Ctx} {Hs : Hp} {J : It} {n : Nat} {G : Hp → Prop} {xs ys : Nat → Option V} {as bs : List D} (w : Walk J n G (YPair xs ys)) (hn : n = min as.length bs.length) (hG : ∀ H, Ex Hs H → G H)
    (hx : ∀ i x, xs i = some x → i < n → ∃ a, as[i]? = some a ∧ Rep C Hs x a) (hy : ∀ i x, ys i = some x → i < n → ∃ a, bs[i]? = some a ∧ Rep C Hs x a) : Walk J (pairsD as bs).length (fun H => Ex Hs H) (YD C Hs (pairsD as bs)) := by
  rw [pairs_len, ← hn]
  refine w.mono hG fun i H v H' hi _ y => ?_
  obtain ⟨T, x, y, rfl, hT, rfl, e1, e2⟩ := y
  obtain ⟨a, f1, f2⟩ := hx i x e1 hi
  obtain ⟨b, g1, g2⟩ := hy i y e2 hi
  refine ⟨.tup [a, b], pairs_get f1 g1, .inr ⟨T, .tup [x, y], hT, rfl, fun Hs' xx hn => ?_⟩⟩
  have x1 : Ex Hs (upd Hs' T (.tup [x, y])) := xx.trans (Ex.new hn)
  exact .tup (SqT.of upd_same) (.cons (f2.mono x1) (.cons (g2.mono x1) .nil))
def enumD (ds : List D) : List D := pairsD ((List.range ds.length).map fun i => .int (i : Nat)) ds
/-- enumerate(xs), zip(xs, ys): the sources made lasting -/
def frozA (f : FA) : DS → Option (List D × DS) := fun s => match f s with
  | some (bs, s1) => match conts s1 bs with
    | some ds => match frozs bs s1 with
      | some s2 => some (ds, s2)
      | none => none
    | none => none
  | none => none
theorem frozA_ok {f : FA} {ds : List D} {s2 : DS} {σ : L2.St} {H : Hp} {Q : List V → Hp → Prop} {Φ : Fx} {Hs : Hp} {s : DS} (T : Tie K cl Φ) (r : Rs Φ Hs s σ H) (e : frozA f s = some (ds, s2))
    (k : ∀ vs H' Hs', Ex Hs Hs' → Rs Φ Hs' s2 σ H' → Reps Φ.C Hs' vs ds → Q vs H') : tA K cl f σ H Q := by
  unfold frozA at e
  cases q1 : f s with
  | none => rw [q1] at e; cases e
  | some y =>
    obtain ⟨bs, s1⟩ := y
    rw [q1] at e
    simp only at e
    cases q2 : conts s1 bs with
    | none => rw [q2] at e; cases e
    | some ds' =>
      rw [q2] at e
      simp only at e
      cases q3 : frozs bs s1 with
      | none => rw [q3] at e; cases e
      | some s3 =>
        rw [q3] at e
        injection e with e
        injection e with e1 e2
        subst e1
        subst e2
        refine ⟨Φ, Hs, s, bs, s1, T, r, q1, fun vs H1 Hs1 x1 r1 h1 => ?_⟩
        obtain ⟨Hs2, x2, r2, h2, _⟩ := frozs_ok r1 h1 q2 q3
        exact k vs H1 Hs2 (x1.trans x2) r2 h2
def enumI (f : FA) : FI := fun s => match frozA f s with
  | some ([.lst ds], s2) => some (enumD ds, s2)
  | _ => none
theorem si_enum {f : FA} (σ : L2.St) (H : Hp) (R : It → Hp → Prop) (h : tI K cl (enumI f) σ H R) : iEnum K (tA K cl f) σ H R := by
  obtain ⟨Φ, Hs, s, ds, s', T, r, e, k⟩ := h
  unfold enumI at e
  split at e
  · rename_i dl s2 q
    injection e with e
    injection e with e1 e2
    subst e1
    subst e2
    refine frozA_ok T r q fun vs H1 Hs1 x1 r1 h1 => ?_
    cases h1 with
    | cons h2 h3 =>
      cases h3
      cases h2 with
      | lst h4 h5 =>
        refine ⟨_, _, rfl, SqL.of (r1.ex _ _ h4), k _ H1 Hs1 x1 r1 ?_⟩
        refine walk_pairs walk_enum ?_ (fun H2 x2 => SqL.of (x2 _ _ h4)) (fun i x ex hi => ?_) (fun i x ex _ => h5.get' ex)
        · rw [List.length_map, List.length_range, Nat.min_self, h5.length]
        · injection ex with ex
          subst ex
          refine ⟨.int (i : Nat), ?_, .int _⟩
          rw [List.getElem?_map, List.getElem?_range (by rw [← h5.length]; exact hi)]
          rfl
  · cases e
/-- zip of two lists, or of two tuples -/
def zipI (f : FA) : FI := fun s => match frozA f s with
  | some ([.lst as, .lst bs], s2) => some (pairsD as bs, s2)
  | some ([.tup as, .tup bs], s2) => if as.length = bs.length then some (pairsD as bs, s2) else none
  | _ => none
end
end DL


set_option Elab.async false
set_option linter.all false
set_option maxRecDepth 100000
set_option maxHeartbeats 2000000
/-! zip and enumerate of lists, tuples and texts, in any mix, as walks of the hand layer -/
namespace DL
open PySem PySem.Spec PyProof.Rows L2

/-- a source -/
inductive SK where
  | lst (a : Addr)
  | tup (a : Addr)
  | str (x : Str) (t : Tok)
def SK.at_ : SK → Addr → Nat → Heap → Prop
  | .lst a, it, i, h => h.IsListIter it a i
  | .tup a, it, i, h => h.IsTupleIter it a i
  | .str x t, it, i, h => h.IsStrIter it (strIterType x) x t i
def signsV (x : Str) : List V := x.cps.toList.map fun c => .str ⟨#[c]⟩
def SK.has (K : PySem.W.Frag) (H : Hp) : SK → List V → Prop
  | .lst a, xs => SqL K H a xs
  | .tup a, xs => SqT K H a xs
  | .str x _, xs => xs = signsV x
def SK.under : SK → List Addr
  | .lst a => [a]
  | .tup a => [a]
  | .str _ _ => []
theorem SK.at_keep {k : SK} {it : Addr} {i : Nat} {h h' : Heap} (x : k.at_ it i h) (hk : ∀ o, h.get? it = some o → h'.get? it = some o) : k.at_ it i h' := by
  cases k with
  | lst a => exact Heap.IsListIter.at x hk
  | tup a => exact Heap.IsTupleIter.at x hk
  | str z t =>
    obtain ⟨o, e, r⟩ := x
    exact ⟨o, hk o e, r⟩
theorem SK.at_live {k : SK} {it : Addr} {i : Nat} {h : Heap} (x : k.at_ it i h) : ∃ o, h.get? it = some o ∧ ∀ v, o.data ≠ .cell v := by
  cases k with
  | lst a =>
    obtain ⟨o, e, _, d⟩ := x
    exact ⟨o, e, fun v q => by rw [d] at q; cases q⟩
  | tup a =>
    obtain ⟨o, e, _, d⟩ := x
    exact ⟨o, e, fun v q => by rw [d] at q; cases q⟩
  | str z t =>
    obtain ⟨o, e, _, d⟩ := x
    exact ⟨o, e, fun v q => by rw [d] at q; cases q⟩
section
variable {X : Cx} {pins : List (Addr × Obj)} {σ : L2.St} {H : Hp} {s : Shared}
theorem SK.inj {k : SK} {xs ys : List V} (I : Inv X pins σ H s) (a : k.has X.K H xs) (b : k.has X.K H ys) : xs = ys := by
  cases k with
  | lst _ => exact I.list_inj a b
  | tup _ => exact I.tuple_inj a b
  | str _ _ => exact a.trans b.symm
theorem SK.under_lt {k : SK} {xs : List V} (I : Inv X pins σ H s) (a : k.has X.K H xs) : ∀ b ∈ k.under, b < s.heap.objs.size := by
  intro b hb
  cases k with
  | lst l =>
    obtain ⟨its, _, p, _⟩ := I.list a
    rw [List.mem_singleton.mp hb]
    exact p.lt
  | tup l =>
    obtain ⟨its, _, ⟨o, e, _⟩, _⟩ := I.tuple a
    rw [List.mem_singleton.mp hb]
    exact Heap.lt_size e
  | str _ _ => exact nomatch hb
/-- what is drawn of the source, as it stands -/
theorem SK.draws {k : SK} {xs : List V} {A : Around} {it : Addr} (I : Inv X pins σ H s) (a : k.has X.K H xs) (hh : A.handled = none) (hne : it ∉ k.under) :
    ∃ (P : Nat → Value → Prop) (S : Nat → Heap → Prop), Draws X.prog X.w A it (it :: k.under) xs.length P S ∧ (∀ i, k.at_ it i s.heap → S i s.heap) ∧ (∀ i h, S i h → k.at_ it i h) ∧ ∀ i u, P i u → ∃ x, xs[i]? = some x ∧ RelV x u := by
  cases k with
  | lst l =>
    obtain ⟨its, rv, p, _⟩ := I.list a
    have hne' : l ≠ it := fun e => hne (List.mem_singleton.mpr e.symm)
    refine ⟨fun i v => its.toArray[i]? = some v, fun i h => h.IsListIter it l i ∧ h.IsList l its.toArray, ?_, fun i x => ⟨x, p.isList⟩, fun i h x => x.1, fun i u hu => ?_⟩
    · have d := Draws.list (prog := X.prog) (w := X.w) hh it l hne' its.toArray
      rw [show its.toArray.size = xs.length by rw [rv.length]; rfl] at d
      exact d
    · have hu : its[i]? = some u := by simpa using hu
      obtain ⟨x, hx⟩ : ∃ x, xs[i]? = some x := by
        have : i < its.length := (List.getElem?_eq_some_iff.mp hu).1
        exact ⟨xs[i]'(by rw [rv.length]; exact this), List.getElem?_eq_getElem _⟩
      obtain ⟨u', h1, h2⟩ := rv.get hx
      rw [hu] at h1
      injection h1 with h1
      rw [h1]
      exact ⟨x, hx, h2⟩
  | tup l =>
    obtain ⟨its, rv, p, _⟩ := I.tuple a
    have hne' : l ≠ it := fun e => hne (List.mem_singleton.mpr e.symm)
    refine ⟨fun i v => its.toArray[i]? = some v, fun i h => h.IsTupleIter it l i ∧ h.IsTuple l its.toArray, ?_, fun i x => ⟨x, p⟩, fun i h x => x.1, fun i u hu => ?_⟩
    · have d := Draws.tuple (prog := X.prog) (w := X.w) hh it l hne' its.toArray
      rw [show its.toArray.size = xs.length by rw [rv.length]; rfl] at d
      exact d
    · have hu : its[i]? = some u := by simpa using hu
      obtain ⟨x, hx⟩ : ∃ x, xs[i]? = some x := by
        have : i < its.length := (List.getElem?_eq_some_iff.mp hu).1
        exact ⟨xs[i]'(by rw [rv.length]; exact this), List.getElem?_eq_getElem _⟩
      obtain ⟨u', h1, h2⟩ := rv.get hx
      rw [hu] at h1
      injection h1 with h1
      rw [h1]
      exact ⟨x, hx, h2⟩
  | str z t =>
    have a : xs = signsV z := a
    refine ⟨fun i v => ∃ c u, z.cps[i]? = some c ∧ v = .str ⟨#[c]⟩ u, fun i h => h.IsStrIter it (strIterType z) z t i, ?_, fun i x => x, fun i h x => x, fun i u hu => ?_⟩
    · have d := Draws.text (prog := X.prog) (w := X.w) hh it z t
      rw [show z.cps.size = xs.length by rw [a]; unfold signsV; rw [List.length_map]; rfl] at d
      exact d
    · obtain ⟨c, u', hc, rfl⟩ := hu
      refine ⟨.str ⟨#[c]⟩, ?_, ⟨u', rfl⟩⟩
      rw [a]
      unfold signsV
      rw [List.getElem?_map, Array.getElem?_toList, hc]
      rfl
end
/-- two sources side by side: new pairs -/
def ItZ (K : PySem.W.Frag) (k1 k2 : SK) : It :=
  ⟨fun i H => ∃ (xs ys : List V) (x y : V), k1.has K H xs ∧ k2.has K H ys ∧ xs[i]? = some x ∧ ys[i]? = some y,
    fun i H v H' => ∃ T x y, v = .ref T ∧ H T = none ∧ H' = upd H T (.tup [x, y]) ∧ (∀ xs, k1.has K H xs → xs[i]? = some x) ∧ ∀ ys, k2.has K H ys → ys[i]? = some y,
    fun i H => ∃ xs ys : List V, k1.has K H xs ∧ k2.has K H ys ∧ i = min xs.length ys.length⟩
theorem turn_zipG {P : Program} {w : World} {K : PySem.W.Frag} {elts : List Expr} {kk : Nat} {tpos : Pos} {k1 k2 : SK} {z TI TO i1 i2 : Addr} (D : ZipSep2 z TI TO i1 i2 (i1 :: k1.under) (i2 :: k2.under)) (n1 : i1 ∉ k1.under) (n2 : i2 ∉ k2.under) :
    Turn P w K (.Tuple elts kk tpos) (ItZ K k1 k2) [z, TI, TO, i1, i2] z (fun i h => IsZip h z TI TO .none ∧ IsTupOf2 h TI (.ref i1) (.ref i2) ∧ (∃ x y, IsTupOf2 h TO x y) ∧ k1.at_ i1 i h ∧ k2.at_ i2 i h) where
  mem := by simp
  obj := fun i h st c hc => by
    obtain ⟨hz, hTI, ⟨x, y, hTO⟩, h1, h2⟩ := st
    have e' : c = z ∨ c = TI ∨ c = TO ∨ c = i1 ∨ c = i2 := by simpa using hc
    rcases e' with q | q | q | q | q
    · rw [q]; exact ⟨_, hz, fun v q => nomatch q⟩
    · rw [q]; exact ⟨_, hTI, fun v q => nomatch q⟩
    · rw [q]; exact ⟨_, hTO, fun v q => nomatch q⟩
    · rw [q]; exact SK.at_live h1
    · rw [q]; exact SK.at_live h2
  keep := fun i h h' st k => by
    obtain ⟨hz, hTI, ⟨x, y, hTO⟩, h1, h2⟩ := st
    exact ⟨k z (by simp) _ hz, k TI (by simp) _ hTI, ⟨x, y, k TO (by simp) _ hTO⟩, SK.at_keep h1 fun o q => k i1 (by simp) o q, SK.at_keep h2 fun o q => k i2 (by simp) o q⟩
  item := by
    intro X hP hw hK hc i pins s σ H E I hf st hg
    subst hP hw hK
    obtain ⟨hz, hTI, ⟨x0, y0, hTO⟩, h1, h2⟩ := st
    obtain ⟨xs, ys, x, y, hqx, hqy, hx, hy⟩ := hg
    have hh : X.A.in1.handled = none := I.ok.hd hc
    obtain ⟨P1, S1, d1, s1, b1, v1⟩ := SK.draws (A := X.A.in1) I hqx hh n1
    obtain ⟨P2, S2, d2, s2, b2, v2⟩ := SK.draws (A := X.A.in1) I hqy hh n2
    have hzl : z < s.heap.objs.size := Heap.lt_size hz
    have l1 : i < xs.length := (List.getElem?_eq_some_iff.mp hx).1
    have l2 : i < ys.length := (List.getElem?_eq_some_iff.mp hy).1
    refine wpAny_pyNext_zipD2_item D d1 d2 hz hTI hTO (s1 i h1) (s2 i h2) l1 l2 fun u u2 h' tk hp1 hp2 z' TO' st1 st2 hT hsz hk => ?_
    obtain ⟨x', hx', ru⟩ := v1 i u hp1
    obtain ⟨y', hy', ru2⟩ := v2 i u2 hp2
    rw [hx] at hx'
    rw [hy] at hy'
    injection hx' with hx'
    injection hy' with hy'
    subst hx'
    subst hy'
    refine ⟨_, rfl, wpAny_letOwnedTupleGo_zip (s := { s with heap := h', toks := tk }) z' fun h'' z'' sb => ?_⟩
    have hT2 : h''.get? s.heap.objs.size = some { cls := .type "tuple", data := .seq #[u, u2] } := (sb.2 _ (Nat.ne_of_gt hzl)).trans hT
    have new : ObjOk X.prog X.w (upd H s.heap.objs.size (.tup [x, y])) h'' s.heap.objs.size (.tup [x, y]) :=
      ⟨by show 2 ≤ sizeLine; decide, [u, u2], .cons ru (.cons ru2 .nil), ⟨_, hT2, rfl, _, rfl⟩⟩
    have I1 : Inv X pins σ (upd H s.heap.objs.size (.tup [x, y])) { s with heap := h'', toks := tk } :=
      I.turnedNew (t' := tk) (ch := [z, TI, TO, i1, i2]) (fun c o hb q => (sb.2 c (fun q' => hb (by simp [q']))).trans (hk c o (fun q' => hb (by simp [q'])) (fun q' => hb (by simp [q'])) (fun q' => hb (by simp [q'])) (fun q' => hb (by simp [q'])) q)) hf (Nat.le_refl _) new
    refine ⟨.ref s.heap.objs.size, _, I1, rfl, ⟨_, x, y, rfl, I.hok.fresh (Nat.le_refl _), rfl, fun l hl => by rw [SK.inj I hl hqx]; exact hx, fun l hl => by rw [SK.inj I hl hqy]; exact hy⟩, ⟨z'', ?_, ⟨u, u2, ?_⟩, ?_, ?_⟩, fun c hcm => ?_⟩
    · exact (sb.2 _ D.TIz).trans (hk _ _ D.TIz D.TITO D.TIi1 D.TIi2 hTI)
    · exact (sb.2 _ D.TOz).trans TO'
    · exact SK.at_keep (b1 _ _ st1) fun o q => (sb.2 _ D.zi1.symm).trans q
    · exact SK.at_keep (b2 _ _ st2) fun o q => (sb.2 _ D.zi2.symm).trans q
    · have hlt : c < s.heap.objs.size := by
        have e' : c = z ∨ c = TI ∨ c = TO ∨ c = i1 ∨ c = i2 := by simpa using hcm
        rcases e' with q | q | q | q | q
        · rw [q]; exact hzl
        · rw [q]; exact Heap.lt_size hTI
        · rw [q]; exact Heap.lt_size hTO
        · rw [q]; obtain ⟨_, e1, _⟩ := SK.at_live h1; exact Heap.lt_size e1
        · rw [q]; obtain ⟨_, e2, _⟩ := SK.at_live h2; exact Heap.lt_size e2
      rw [upd_ne (Nat.ne_of_lt hlt)]
      exact (hf c hcm).1
  done := by
    intro X hP hw hK hc i pins s σ H E I hf st hg
    subst hP hw hK
    obtain ⟨hz, hTI, ⟨x0, y0, hTO⟩, h1, h2⟩ := st
    obtain ⟨xs, ys, hqx, hqy, hend⟩ := hg
    have hh : X.A.in1.handled = none := I.ok.hd hc
    obtain ⟨P1, S1, d1, s1, b1, v1⟩ := SK.draws (A := X.A.in1) I hqx hh n1
    obtain ⟨P2, S2, d2, s2, b2, v2⟩ := SK.draws (A := X.A.in1) I hqy hh n2
    exact wpAny_pyNext_zipD2_end D d1 d2 hz hTI hTO (s1 i h1) (s2 i h2) (by omega) (by omega) (by omega) fun h' tk hk => ⟨rfl, I.turnedL (t' := tk) (ch := [z, TI, TO, i1, i2]) (fun c o hb q =>
      hk c o (fun q' => hb (by simp [q'])) (fun q' => hb (by simp [q'])) (fun q' => hb (by simp [q'])) (fun q' => hb (by simp [q'])) q) hf⟩
  self := fun A i s Q E st h => wpAny_pyIter_zip st.1 h
theorem walk_zipG {K : PySem.W.Frag} {k1 k2 : SK} {xs ys : List V} {n : Nat} (hn : n = min xs.length ys.length) : Walk (ItZ K k1 k2) n (fun H => k1.has K H xs ∧ k2.has K H ys) (YPair (fun i => xs[i]?) (fun i => ys[i]?)) where
  goes := fun i H hi ⟨h1, h2⟩ => ⟨xs, ys, xs[i]'(by omega), ys[i]'(by omega), h1, h2, List.getElem?_eq_getElem _, List.getElem?_eq_getElem _⟩
  stops := fun H ⟨h1, h2⟩ => ⟨xs, ys, h1, h2, hn⟩
  yields := fun i H x H' hi ⟨h1, h2⟩ ⟨T, x1, y1, e1, e2, e3, f1, f2⟩ => ⟨T, x1, y1, e1, e2, e3, f1 xs h1, f2 ys h2⟩
/-- what a value is as a source, by its kind -/
inductive Kd where
  | l
  | t
  | s
def KdV (K : PySem.W.Frag) (H : Hp) (v : V) (xs : List V) : Kd → Prop
  | .l => ∃ a, v = .ref a ∧ SqL K H a xs
  | .t => ∃ a, v = .ref a ∧ SqT K H a xs
  | .s => ∃ z, v = .str z ∧ xs = signsV z
def iZipG (K : PySem.W.Frag) (ta : TA) : TI := fun σ H R => ta σ H fun vs H1 => ∃ v u xs ys k1 k2, vs = [v, u] ∧ KdV K H1 v xs k1 ∧ KdV K H1 u ys k2 ∧
  ∀ J : It, Walk J (min xs.length ys.length) (fun H2 => KdV K H2 v xs k1 ∧ KdV K H2 u ys k2) (YPair (fun i => xs[i]?) (fun i => ys[i]?)) → R J H1
theorem src_kind {X : Cx} {pins : List (Addr × Obj)} {σ : L2.St} {H : Hp} {s : Shared} {v : V} {uv : Value} {xs : List V} {kd : Kd} (I : Inv X pins σ H s) (r : RelV v uv) (h : KdV X.K H v xs kd) :
    ∃ (k : SK) (o : Obj) (Hb : Heap → Prop), k.has X.K H xs ∧ Begins uv o Hb ∧ Hb s.heap ∧ (∀ it h, h.get? it = some o → k.at_ it 0 h) ∧ ∀ H2, KdV X.K H2 v xs kd → k.has X.K H2 xs := by
  cases kd with
  | l =>
    obtain ⟨a, rfl, h⟩ := h
    have r : uv = .ref a := r
    subst r
    obtain ⟨its, rv, p, _⟩ := I.list h
    refine ⟨.lst a, _, _, h, begins_list a its.toArray, p.isList, fun it h e => ⟨_, e, rfl, rfl⟩, fun H2 h2 => ?_⟩
    obtain ⟨b, e, h2⟩ := h2
    injection e with e
    subst e
    exact h2
  | t =>
    obtain ⟨a, rfl, h⟩ := h
    have r : uv = .ref a := r
    subst r
    obtain ⟨its, rv, p, _⟩ := I.tuple h
    refine ⟨.tup a, _, _, h, begins_tuple a its.toArray, p, fun it h e => ⟨_, e, rfl, rfl⟩, fun H2 h2 => ?_⟩
    obtain ⟨b, e, h2⟩ := h2
    injection e with e
    subst e
    exact h2
  | s =>
    obtain ⟨z, rfl, h⟩ := h
    obtain ⟨t, rfl⟩ := r
    exact ⟨.str z t, _, _, h, begins_text z t, trivial, fun it h e => ⟨_, e, rfl, rfl⟩, fun H2 h2 => h⟩
theorem pi_zipG {X : Cx} {e e2 : Expr} {ta : TA} {p pos tpos : Pos} {elts : List Expr} {kk : Nat} (hg : Gl X "zip") (hm : X.mg "zip" = none) (ha : PA X [e, e2] ta)
    (hs : starEach [e, e2] X.env = (false, eval e X.env) :: starEach [e2] X.env) (hpl : (backTo pos (starEach [e2] X.env)).any (·.1) = false) :
    PI X (.Tuple elts kk tpos) (.Call (.Name "zip" p) [e, e2] [] pos) (iZipG X.K ta) := by
  refine ⟨fun pins s σ H R I h => ?_⟩
  refine Call_ (ld_blt I hg hm PyProof.Rows.boot_zip (PyProof.Rows.callWith_type1 (thn (ha.run pos pins s σ H _ I h) fun us s1 ⟨vs, H1, I1, r1, q1⟩ => ?_) hs hpl))
  obtain ⟨v, u, xs, ys, kd1, kd2, ex, sv, su, q1⟩ := q1
  subst ex
  cases r1 with
  | cons r rr =>
    cases rr with
    | cons r' rr =>
      cases rr
      obtain ⟨k1, o1, Hb1, a1, B1, c1, d1, g1⟩ := src_kind I1 r sv
      obtain ⟨k2, o2, Hb2, a2, B2, c2, d2, g2⟩ := src_kind I1 r' su
      have u1 := SK.under_lt I1 a1
      have u2 := SK.under_lt I1 a2
      refine zip_begins2 B1 B2 c1 c2 fun h' hz hTI hTO h1 h2 hsz hk => wpAny_pyIter_zip hz ?_
      have I2 : Inv X pins σ H1 { s1 with heap := h' } := I1.kept (t' := s1.toks) hk
      have fresh5 : ∀ c, c ∈ [s1.heap.objs.size + 4, s1.heap.objs.size + 2, s1.heap.objs.size + 3, s1.heap.objs.size, s1.heap.objs.size + 1] → FpOk X pins H1 c := fun c hcm => by
        have e' : c = s1.heap.objs.size + 4 ∨ c = s1.heap.objs.size + 2 ∨ c = s1.heap.objs.size + 3 ∨ c = s1.heap.objs.size ∨ c = s1.heap.objs.size + 1 := by simpa using hcm
        have hle : s1.heap.objs.size ≤ c := by
          rcases e' with z | z | z | z | z
          · rw [z]; exact Nat.le_add_right _ _
          · rw [z]; exact Nat.le_add_right _ _
          · rw [z]; exact Nat.le_add_right _ _
          · rw [z]; exact Nat.le_refl _
          · rw [z]; exact Nat.le_add_right _ _
        exact I1.fpOk hle (I1.hok.fresh hle)
      have n1 : s1.heap.objs.size ∉ k1.under := fun z => absurd (u1 _ z) (Nat.lt_irrefl _)
      have n2 : s1.heap.objs.size + 1 ∉ k2.under := fun z => absurd (u2 _ z) (Nat.not_lt.mpr (Nat.le_succ _))
      refine ⟨s1.heap.objs.size + 4, [s1.heap.objs.size + 4, s1.heap.objs.size + 2, s1.heap.objs.size + 3, s1.heap.objs.size, s1.heap.objs.size + 1], _, ItZ X.K k1 k2, H1, rfl, I2, turn_zipG (zip_sep2 u1 u2) n1 n2, ⟨hz, hTI, ⟨_, _, hTO⟩, d1 _ _ h1, d2 _ _ h2⟩, fresh5, ?_⟩
      exact q1 _ ((walk_zipG rfl).mono (fun H2 hG2 => ⟨g1 H2 hG2.1, g2 H2 hG2.2⟩) (fun i H2 x H3 _ _ y => y))
end DL


set_option Elab.async false
set_option linter.all false
set_option maxRecDepth 100000
set_option maxHeartbeats 2000000
/-! THE DATA LAYER: zip by data, pairs stored at once, two clauses, texts -/
namespace DL
open PySem PySem.Spec PyProof.Rows L2
section
variable {cl : Str → Option Addr} {K : PySem.W.Frag}
/-! ### zip -/
def zipF (f : FA) : FI := fun s => match frozA f s with
  | some ([a, b], s2) => match seqOf a with
    | some as => match seqOf b with
      | some bs => some (pairsD as bs, s2)
      | none => none
    | none => none
  | _ => none
theorem signs_reps {C : Ctx} {Hs : Hp} : ∀ x : List Nat, Reps C Hs (signsV (mkS x)) (signsD x)
  | [] => .nil
  | c :: r => .cons (.str [c]) (signs_reps r)
/-- a lasting datum as a source -/
theorem src_of {C : Ctx} {Hs : Hp} (hk : C.K = K) {v : V} {d : D} {ds : List D} (h : Rep C Hs v d) (e : seqOf d = some ds) : ∃ xs kd, Reps C Hs xs ds ∧ ∀ H, Ex Hs H → KdV K H v xs kd := by
  unfold seqOf at e
  split at e
  · injection e with e
    subst e
    cases h with
    | lst h1 h2 => exact ⟨_, .l, h2, fun H x => ⟨_, rfl, SqL.of (x _ _ h1)⟩⟩
  · injection e with e
    subst e
    cases h with
    | tup h1 h2 =>
      rw [hk] at h1
      exact ⟨_, .t, h2, fun H x => ⟨_, rfl, ex_t x h1⟩⟩
  · rename_i x
    injection e with e
    subst e
    cases h
    exact ⟨signsV (mkS x), .s, signs_reps x, fun H _ => ⟨_, rfl, rfl⟩⟩
  · cases e
theorem si_zip {f : FA} (σ : L2.St) (H : Hp) (R : It → Hp → Prop) (h : tI K cl (zipF f) σ H R) : iZipG K (tA K cl f) σ H R := by
  obtain ⟨Φ, Hs, s, ds, s', T, r, e, k⟩ := h
  unfold zipF at e
  split at e
  · rename_i a b s2 q
    cases qa : seqOf a with
    | none => rw [qa] at e; cases e
    | some as =>
      rw [qa] at e
      simp only at e
      cases qb : seqOf b with
      | none => rw [qb] at e; cases e
      | some bs =>
        rw [qb] at e
        injection e with e
        injection e with e1 e2
        subst e1
        subst e2
        refine frozA_ok T r q fun vs H1 Hs1 x1 r1 h1 => ?_
        cases h1 with
        | cons h2 h3 =>
          cases h3 with
          | cons h3 h4 =>
            cases h4
            obtain ⟨xs, kd1, rx, kx⟩ := src_of T.k h2 qa
            obtain ⟨ys, kd2, ry, ky⟩ := src_of T.k h3 qb
            refine ⟨_, _, xs, ys, kd1, kd2, rfl, kx H1 r1.ex, ky H1 r1.ex, fun J hJ => k J H1 Hs1 x1 r1 ?_⟩
            refine walk_pairs hJ ?_ (fun H2 x2 => ⟨kx H2 x2, ky H2 x2⟩) (fun i x ex _ => rx.get' ex) (fun i x ex _ => ry.get' ex)
            rw [rx.length, ry.length]
  · cases e
/-! ### list(text), text * n -/
theorem cr_list_str {X : Cx} (hc : X.calm = true) : CallR X (.type "list") (fun xs H Q => ∃ z, xs = [.str z] ∧ z.length ≤ sizeLine ∧ ∀ l, H l = none → Q (.ref l) (upd H l (.lst (signsV z)))) := by
  intro pins s σ H xs us Q I r h
  obtain ⟨z, rfl, hz, q⟩ := h
  obtain ⟨u, rfl, t, rfl⟩ := r.one
  refine call_list_str (I.ok.hd hc) z t (hn := hz) fun h' tk acc' c' hk hS' hacc => ?_
  have hv : Vals (signsV z) acc'.toList := by
    refine vals_of_at ?_ fun j x u hx hu => ?_
    · unfold signsV
      rw [List.length_map]
      show z.cps.toList.length = acc'.toList.length
      rw [Array.length_toList, Array.length_toList, hacc.1]
    · obtain ⟨c, t', hc', rfl⟩ := hacc.2 j u (by simpa using hu)
      unfold signsV at hx
      rw [List.getElem?_map, Array.getElem?_toList, hc'] at hx
      injection hx with hx
      subst hx
      exact ⟨t', rfl⟩
  refine ⟨.ref s.heap.objs.size, _, I.laid (t' := tk) (o := .lst (signsV z)) hk (Nat.le_refl _) ⟨?_, acc'.toList, c', hv, ?_⟩, rfl, q _ (I.hok.fresh (Nat.le_refl _))⟩
  · unfold signsV
    rw [List.length_map]
    exact hz
  · rw [Array.toArray_toList]
    exact hS'
def pListS : List D → Option BV
  | [.str x] => if x.length ≤ lineN then some (.fr (.lst (signsD x))) else none
  | ds => pList ds
def rListA (K : PySem.W.Frag) : List V → Hp → VK → Prop := fun xs H Q => rListV K xs H Q ∨ ∃ z, xs = [.str z] ∧ z.length ≤ sizeLine ∧ ∀ l, H l = none → Q (.ref l) (upd H l (.lst (signsV z)))
theorem p_listA : POk K cl (rListA K) pListS := by
  intro Φ Hs s σ H vs ds b T r ho e Q k
  unfold pListS at e
  split at e
  · rename_i x
    split at e
    · rename_i hl
      injection e with e
      subst e
      obtain ⟨v, rfl, h1⟩ := ho.one
      rw [opd_str h1]
      exact .inr ⟨_, rfl, by rw [line_eq]; exact hl, fun l hp => fin_lst r k hp (signs_reps x)⟩
    · cases e
  · exact .inl (p_list Φ Hs s σ H vs _ b T r ho e Q k)
theorem op_rep_str {X : Cx} : OpR X (binaryOp .Mult) (fun x y H Q => ∃ z k, x = .str z ∧ y = .int k ∧ 0 ≤ k ∧ k ≤ 100000 ∧ z.length ≤ 100 ∧ Q (.str (mkS (repD k.toNat z.cps.toList))) H) := by
  intro pins s σ H x y v u Q I rx ry h
  obtain ⟨z, k, rfl, rfl, h0, h1, hz, q⟩ := h
  obtain ⟨t, rfl⟩ := rx
  obtain ⟨t', rfl⟩ := ry
  have fold : ∀ (m : Nat) (acc : Array Nat), (List.replicate m z.cps).foldl (· ++ ·) acc = acc ++ (repD m z.cps.toList).toArray := by
    intro m
    induction m with
    | zero =>
      intro acc
      simp [repD]
    | succ m ih =>
      intro acc
      rw [List.replicate_succ, List.foldl_cons, ih]
      unfold repD
      rw [List.replicate_succ, List.flatten_cons, Array.append_assoc]
      congr 1
      apply Array.ext'
      simp
  have eq : ∀ tk, (if k < 1 then Made.str Str.empty else if (k == 1 || z.length == 0) = true then Made.val (.str z t) else Made.str ⟨(List.replicate k.toNat z.cps).foldl (· ++ ·) #[]⟩).post (EP X pins σ Q) { s with toks := tk } := by
    intro tk
    split
    · have : k = 0 := by omega
      subst this
      exact ⟨by decide, .str Str.empty, H, I.tok _, ⟨_, rfl⟩, q⟩
    · split
      · rename_i hc
        rw [Bool.or_eq_true] at hc
        refine ⟨.str z, H, I.tok _, ⟨t, rfl⟩, ?_⟩
        rcases hc with hc | hc
        · have := eq_of_beq hc
          subst this
          have e : mkS (repD (1 : Int).toNat z.cps.toList) = z := by
            show mkS (List.flatten [z.cps.toList]) = z
            rw [List.flatten_cons, List.flatten_nil, List.append_nil]
            exact mk_eq z
          rw [e] at q
          exact q
        · have hl : z.length = 0 := eq_of_beq hc
          have hz0 : z.cps.toList = [] := List.eq_nil_of_length_eq_zero hl
          have e : mkS (repD k.toNat z.cps.toList) = z := by
            rw [hz0]
            have : repD k.toNat ([] : List Nat) = [] := by
              unfold repD
              induction k.toNat with
              | zero => rfl
              | succ m ih =>
                rw [List.replicate_succ, List.flatten_cons, ih]
                rfl
            rw [this, ← mk_eq z, hz0]
          rw [e] at q
          exact q
      · have e : (⟨(List.replicate k.toNat z.cps).foldl (· ++ ·) #[]⟩ : Str) = mkS (repD k.toNat z.cps.toList) := by
          rw [fold]
          unfold mkS
          simp
        rw [e]
        refine ⟨?_, .str _, H, I.tok _, ⟨_, rfl⟩, q⟩
        have hlen : ∀ m : Nat, (repD m z.cps.toList).length = m * z.length := by
          intro m
          induction m with
          | zero => simp [repD]
          | succ m ih =>
            unfold repD at ih ⊢
            rw [List.replicate_succ, List.flatten_cons, List.length_append, ih]
            show z.length + _ = _
            rw [Nat.succ_mul, Nat.add_comm]
        show (repD k.toNat z.cps.toList).length ≤ sizeLine
        rw [hlen, line_eq]
        have : k.toNat * z.length ≤ 100000 * 100 := Nat.mul_le_mul (by omega) hz
        show _ ≤ 16777216
        omega
  refine P.mul_str ?_ (fun hn hc => ?_) (fun hn hc => ?_) ?_
  · rw [decide_eq_false (by omega), decide_eq_false (by omega)]
    rfl
  · have h2 : (2 ^ 63 - 1 : Int) / k ≥ 1000000 := by
      apply Int.le_ediv_of_mul_le (by omega)
      omega
    omega
  · show decide (z.length * k.toNat > sizeLine) = false
    apply decide_eq_false
    rw [line_eq]
    have : z.length * k.toNat ≤ 100 * 100000 := Nat.mul_le_mul hz (by omega)
    show ¬ (z.length * k.toNat > 16777216)
    omega
  · exact eq s.toks
end
end DL


set_option Elab.async false
set_option linter.all false
set_option maxRecDepth 100000
set_option maxHeartbeats 2000000
/-! THE DATA LAYER: pairs stored at once; two clauses; join, count -/
namespace DL
open PySem PySem.Spec PyProof.Rows L2
section
variable {cl : Str → Option Addr} {K : PySem.W.Frag}
/-! ### several values, new objects kept apart -/
inductive RBf (Φ : Fx) (Hs : Hp) (s : DS) (σ : L2.St) (H : Hp) : List V → List BV → Prop
  | nil : RBf Φ Hs s σ H [] []
  | st {v : V} {d : D} {vs : List V} {bs : List BV} : Rep Φ.C Hs v d → RBf Φ Hs s σ H vs bs → RBf Φ Hs s σ H (v :: vs) (.st d :: bs)
  | fr {p : Addr} {x : D} {vs : List V} {bs : List BV} : FreshAt Φ Hs s σ H p x → (∀ q y, (V.ref q, BV.fr y) ∈ vs.zip bs → q ≠ p) → RBf Φ Hs s σ H vs bs → RBf Φ Hs s σ H (.ref p :: vs) (.fr x :: bs)
def tAf (K : PySem.W.Frag) (cl : Str → Option Addr) (f : FA) : TA := fun σ H Q => ∃ Φ Hs s bs s', Tie K cl Φ ∧ Rs Φ Hs s σ H ∧ f s = some (bs, s') ∧ ∀ vs H' Hs', Ex Hs Hs' → Rs Φ Hs' s' σ H' → RBf Φ Hs' s' σ H' vs bs → Q vs H'
/-- a slot's object made lasting, a new one left as it is -/
def unow (s : DS) : BV → Option (BV × DS)
  | .ow i => match froz s (.ow i) with
    | some (d, s1) => some (.st d, s1)
    | none => none
  | b => some (b, s)
def consAf (f : FE) (g : FA) : FA := fun s => match f s with
  | some (b, s1) => match unow s1 b with
    | some (b', s2) => match g s2 with
      | some (bs, s3) => some (b' :: bs, s3)
      | none => none
    | none => none
  | none => none
theorem sf_nil (σ : L2.St) (H : Hp) (Q : List V → Hp → Prop) (h : tAf K cl nilA σ H Q) : tNil σ H Q := by
  obtain ⟨Φ, Hs, s, b, s', T, r, e, k⟩ := h
  injection e with e
  injection e with e1 e2
  subst e1
  subst e2
  exact k _ H Hs (Ex.refl _) r .nil
theorem unow_ok {Φ : Fx} {Hs H : Hp} {s s' : DS} {σ : L2.St} {v : V} {b b' : BV} (r : Rs Φ Hs s σ H) (h : RB Φ Hs s σ H v b) (e : unow s b = some (b', s')) :
    ∃ Hs', Ex Hs Hs' ∧ Rs Φ Hs' s' σ H ∧ ((∃ d, b' = .st d ∧ Rep Φ.C Hs' v d) ∨ ∃ p x, v = .ref p ∧ b' = .fr x ∧ FreshAt Φ Hs' s' σ H p x) := by
  cases b with
  | st d =>
    injection e with e
    injection e with e1 e2
    subst e1
    subst e2
    exact ⟨Hs, Ex.refl _, r, .inl ⟨d, rfl, h⟩⟩
  | fr d =>
    injection e with e
    injection e with e1 e2
    subst e1
    subst e2
    obtain ⟨p, rfl, f⟩ := h
    exact ⟨Hs, Ex.refl _, r, .inr ⟨p, d, rfl, rfl, f⟩⟩
  | ow i =>
    unfold unow at e
    cases q : froz s (.ow i) with
    | none =>
      simp only [q] at e
      cases e
    | some y =>
      obtain ⟨d, s1⟩ := y
      simp only [q] at e
      injection e with e
      injection e with e1 e2
      subst e1
      subst e2
      obtain ⟨Hs', x', r', h'⟩ := froz_ok r h q
      exact ⟨Hs', x', r', .inl ⟨d, rfl, h'⟩⟩
theorem FreshAt.unpin {Φ : Fx} {Hs H : Hp} {s : DS} {σ : L2.St} {p q : Addr} {o : HO} {y : D} (f : FreshAt (Φ.pin p o) Hs s σ H q y) (h0 : Φ.Hf p = none) : FreshAt Φ Hs s σ H q y ∧ q ≠ p := by
  have hf : upd Φ.Hf p o q = none := f.hf
  by_cases z : q = p
  · subst z
    rw [upd_same] at hf
    cases hf
  · rw [upd_ne z] at hf
    exact ⟨⟨f.hs, hf, f.dl, f.sep, f.at_⟩, z⟩
theorem RBf.unpin {Φ : Fx} {Hs H : Hp} {s : DS} {σ : L2.St} {p : Addr} {o : HO} {vs : List V} {bs : List BV} (h : RBf (Φ.pin p o) Hs s σ H vs bs) (h0 : Φ.Hf p = none) : RBf Φ Hs s σ H vs bs ∧ ∀ q y, (V.ref q, BV.fr y) ∈ vs.zip bs → q ≠ p := by
  induction h with
  | nil => exact ⟨.nil, fun q y z => (nomatch z)⟩
  | st hr _ ih =>
    refine ⟨.st hr ih.1, fun q y z => ?_⟩
    rw [List.zip_cons_cons] at z
    rcases List.mem_cons.mp z with z | z
    · injection z with _ z
      cases z
    · exact ih.2 q y z
  | fr hf hd _ ih =>
    obtain ⟨f1, f2⟩ := hf.unpin h0
    refine ⟨.fr f1 hd ih.1, fun q y z => ?_⟩
    rw [List.zip_cons_cons] at z
    rcases List.mem_cons.mp z with z | z
    · injection z with z1 _
      injection z1 with z1
      rw [z1]
      exact f2
    · exact ih.2 q y z
theorem sf_cons {f : FE} {g : FA} (σ : L2.St) (H : Hp) (Q : List V → Hp → Prop) (h : tAf K cl (consAf f g) σ H Q) : tCons (tE K cl f) (tAf K cl g) σ H Q := by
  obtain ⟨Φ, Hs, s, b, s', T, r, e, k⟩ := h
  unfold consAf at e
  cases q1 : f s with
  | none => rw [q1] at e; cases e
  | some y =>
    obtain ⟨b1, s1⟩ := y
    rw [q1] at e
    simp only at e
    cases q2 : unow s1 b1 with
    | none => rw [q2] at e; cases e
    | some y =>
      obtain ⟨b2, s2⟩ := y
      rw [q2] at e
      simp only at e
      cases q3 : g s2 with
      | none => rw [q3] at e; cases e
      | some y =>
        obtain ⟨bs, s3⟩ := y
        rw [q3] at e
        injection e with e
        injection e with e1 e2
        subst e1
        subst e2
        refine ⟨Φ, Hs, s, b1, s1, T, r, q1, fun v H1 Hs1 x1 r1 h1 => ?_⟩
        obtain ⟨Hs2, x2, r2, h2⟩ := unow_ok r1 h1 q2
        rcases h2 with ⟨d, rfl, hd⟩ | ⟨p, x, rfl, rfl, hf⟩
        · refine ⟨Φ, Hs2, s2, bs, s3, T, r2, q3, fun vs H3 Hs3 x3 r3 h3 => ?_⟩
          exact k _ _ _ (x1.trans (x2.trans x3)) r3 (.st (hd.mono x3) h3)
        · obtain ⟨o, eo⟩ := hf.at_.there
          have rp := r2.pin hf.hs hf.sep eo
          refine ⟨Φ.pin p o, Hs2, s2, bs, s3, T.pin, rp, q3, fun vs H3 Hs3 x3 r3 h3 => ?_⟩
          obtain ⟨w1, w2⟩ := r3.pinned hf.dl
          obtain ⟨h4, h5⟩ := h3.unpin hf.hf
          have n3 : Hs3 p = none := (r3.fs p o upd_same).trans ((rp.fs p o upd_same).symm.trans hf.hs)
          exact k _ _ _ (x1.trans (x2.trans x3)) (r3.unpin hf.dl hf.hf) (.fr ⟨n3, hf.hf, hf.dl, w2, hf.at_.mono x3 (w1.trans eo.symm)⟩ h5 h4)
/-- the names' slots stored in their order -/
def putsV : List Nat → List BV → DS → Option DS
  | [], [], s => some s
  | i :: is, b :: bs, s => match setV i b s with
    | some s1 => putsV is bs s1
    | none => none
  | _, _, _ => none
def setAll (σ : L2.St) : List Nat → List V → L2.St
  | i :: is, v :: vs => setAll (σ.set i (some v)) is vs
  | _, _ => σ
theorem RBf.put {Φ : Fx} {Hs H : Hp} {s : DS} {σ : L2.St} {i : Nat} {v : V} {sv : SV} {vs : List V} {bs : List BV} (h : RBf Φ Hs s σ H vs bs) (hl : s.ρ.length = σ.length) (hv : ∀ x, sv = .own x → ∀ q y, (V.ref q, BV.fr y) ∈ vs.zip bs → v ≠ .ref q) :
    RBf Φ Hs { s with ρ := s.ρ.set i (some sv) } (σ.set i (some v)) H vs bs := by
  induction h with
  | nil => exact .nil
  | st hr _ ih =>
    refine .st hr (ih fun x e q y z => hv x e q y ?_)
    rw [List.zip_cons_cons]
    exact List.mem_cons_of_mem _ z
  | fr hf hd _ ih =>
    rename_i p x vs bs _
    refine .fr ⟨hf.hs, hf.hf, hf.dl, fun j y e z => ?_, hf.at_⟩ hd (ih fun x e q y z => hv x e q y ?_)
    · have e' : (s.ρ.set i (some sv))[j]? = some (some (.own y)) := e
      by_cases c : i = j
      · subst c
        have hli : i < s.ρ.length := by
          have := (List.getElem?_eq_some_iff.mp e').1
          rw [List.length_set] at this
          exact this
        rw [List.getElem?_set_self hli] at e'
        injection e' with e'
        injection e' with e'
        rw [List.getElem?_set_self (by omega)] at z
        injection z with z
        injection z with z
        refine hv y e' p x ?_ z
        rw [List.zip_cons_cons]
        exact List.mem_cons_self
      · rw [List.getElem?_set_ne c] at e' z
        exact hf.sep j y e' z
    · rw [List.zip_cons_cons]
      exact List.mem_cons_of_mem _ z
theorem putsV_ok {Φ : Fx} {Hs H : Hp} : ∀ {is : List Nat} {vs : List V} {bs : List BV} {s s' : DS} {σ : L2.St}, Rs Φ Hs s σ H → RBf Φ Hs s σ H vs bs → putsV is bs s = some s' → Rs Φ Hs s' (setAll σ is vs) H := by
  intro is
  induction is with
  | nil =>
    intro vs bs s s' σ r h e
    cases h with
    | nil =>
      injection e with e
      subst e
      exact r
    | st _ _ => cases e
    | fr _ _ _ => cases e
  | cons i is ih =>
    intro vs bs s s' σ r h e
    cases h with
    | nil => cases e
    | st hr ht =>
      rename_i v d vs bs
      have e : putsV is bs { s with ρ := s.ρ.set i (some (.d d)) } = some s' := e
      exact ih (r.put hr) (ht.put r.len fun x q => (nomatch q)) e
    | fr hf hd ht =>
      rename_i p x vs bs
      have e : putsV is bs { s with ρ := s.ρ.set i (some (.own x)) } = some s' := e
      refine ih (r.putOwn hf) (ht.put r.len fun y q q' y' z w => ?_) e
      injection w with w
      exact hd q' y' z w.symm
def parS (is : List Nat) (f : FA) : FS := fun s => match f s with
  | some (bs, s1) => match putsV is bs s1 with
    | some s2 => some (.nx, s2)
    | none => none
  | none => none
theorem par_ok {is : List Nat} {f : FA} (D : Ends) (σ : L2.St) (H : Hp) (h : tS K cl (parS is f) D σ H) : tAf K cl f σ H fun vs H1 => vs.length = is.length ∧ D.nx (setAll σ is vs) H1 := by
  obtain ⟨Φ, Hs, s, o, s', T, r, e, k⟩ := h
  unfold parS at e
  cases q1 : f s with
  | none => rw [q1] at e; cases e
  | some y =>
    obtain ⟨bs, s1⟩ := y
    rw [q1] at e
    simp only at e
    cases q2 : putsV is bs s1 with
    | none => rw [q2] at e; cases e
    | some s2 =>
      rw [q2] at e
      injection e with e
      injection e with e1 e2
      subst e1
      subst e2
      refine ⟨Φ, Hs, s, bs, s1, T, r, q1, fun vs H1 Hs1 x1 r1 h1 => ⟨?_, k _ H1 Hs1 x1 (putsV_ok r1 h1 q2)⟩⟩
      have l1 : ∀ {is : List Nat} {bs : List BV} {s s' : DS}, putsV is bs s = some s' → bs.length = is.length := by
        intro is
        induction is with
        | nil =>
          intro bs s s' e
          cases bs with
          | nil => rfl
          | cons _ _ => cases e
        | cons i is ih =>
          intro bs s s' e
          cases bs with
          | nil => cases e
          | cons b bs =>
            unfold putsV at e
            cases q : setV i b s with
            | none => rw [q] at e; cases e
            | some s1 =>
              rw [q] at e
              rw [List.length_cons, List.length_cons, ih e]
      have l2 : vs.length = bs.length := by
        clear q1 q2 k
        induction h1 with
        | nil => rfl
        | st _ _ ih => rw [List.length_cons, List.length_cons, ih]
        | fr _ _ _ ih => rw [List.length_cons, List.length_cons, ih]
      exact l2.trans (l1 q2)
theorem tAf_mono {f : FA} {σ : L2.St} {H : Hp} {Q Q' : List V → Hp → Prop} (h : tAf K cl f σ H Q) (hq : ∀ vs H, Q vs H → Q' vs H) : tAf K cl f σ H Q' := by
  obtain ⟨Φ, Hs, s, b, s', T, r, e, k⟩ := h
  exact ⟨Φ, Hs, s, b, s', T, r, e, fun v H' Hs' a b c => hq _ _ (k v H' Hs' a b c)⟩
theorem ss_par2 {i j : Nat} {f : FA} (D : Ends) (σ : L2.St) (H : Hp) (h : tS K cl (parS [i, j] f) D σ H) : tPar i j (tAf K cl f) D σ H :=
  tAf_mono (par_ok D σ H h) fun vs H1 ⟨hl, hn⟩ => match vs, hl, hn with
    | [v, w], _, hn => ⟨v, w, rfl, hn⟩
theorem ss_par3 {i j l : Nat} {f : FA} (D : Ends) (σ : L2.St) (H : Hp) (h : tS K cl (parS [i, j, l] f) D σ H) : tPar3 i j l (tAf K cl f) D σ H :=
  tAf_mono (par_ok D σ H h) fun vs H1 ⟨hl, hn⟩ => match vs, hl, hn with
    | [u, v, w], _, hn => ⟨u, v, w, rfl, hn⟩
/-! ### two clauses -/
/-- the second clause's turns: the slots vs1 of its target wiped at each -/
def lc2L (vs1 : List Nat) (g : FG) (c : FT) (f : FE) : List D → List D → DS → Option (List D × DS)
  | acc, [], s => some (acc, s)
  | acc, d :: r, s => match g d (s.wipe vs1) with
    | some s1 => match c s1 with
      | some (true, s2) => match f s2 with
        | some (b, s3) => match froz s3 b with
          | some (x, s4) => if acc.length < lineN then lc2L vs1 g c f (acc ++ [x]) r s4 else none
          | none => none
        | none => none
      | some (false, s2) => lc2L vs1 g c f acc r s2
      | none => none
    | none => none
def lc1L (vs vs1 : List Nat) (g : FG) (c : FT) (i1 : FI) (g1 : FG) (c1 : FT) (f : FE) : List D → List D → DS → Option (List D × DS)
  | acc, [], s => some (acc, s)
  | acc, d :: r, s => match g d (s.wipe vs) with
    | some s1 => match c s1 with
      | some (true, s2) => match i1 s2 with
        | some (ds, s3) => match lc2L vs1 g1 c1 f acc ds s3 with
          | some (acc', s4) => lc1L vs vs1 g c i1 g1 c1 f acc' r s4
          | none => none
        | none => none
      | some (false, s2) => lc1L vs vs1 g c i1 g1 c1 f acc r s2
      | none => none
    | none => none
def lc2E (vs vs1 : List Nat) (i : FI) (g : FG) (c : FT) (i1 : FI) (g1 : FG) (c1 : FT) (f : FE) : FE := fun s => match i s with
  | some (ds, s1) => match lc1L vs vs1 g c i1 g1 c1 f [] ds s1 with
    | some (xs, s2) => some (.fr (.lst xs), s2.wipe vs)
    | none => none
  | none => none
theorem pin_none {Φ : Fx} {Hs Hs' H H' : Hp} {s s' : DS} {σ σ' : L2.St} {p : Addr} {o o' : HO} (r : Rs (Φ.pin p o) Hs s σ H) (n : Hs p = none) (r' : Rs (Φ.pin p o') Hs' s' σ' H') : Hs' p = none :=
  (r'.fs p o' upd_same).trans ((r.fs p o upd_same).symm.trans n)
theorem wipe_sub {vs vs1 : List Nat} (hv : ∀ i ∈ vs1, i ∈ vs) {σ σ' : L2.St} (hl : σ'.length = σ.length) (h : L2.wipe σ' vs1 = L2.wipe σ vs1) : L2.wipe σ' vs = L2.wipe σ vs := by
  have o : Off vs (L2.wipe σ vs) σ' := ⟨by rw [hl, wipe_length], fun i hi => by
    rw [wipe_out hi, ← wipe_out (σ := σ) (fun z => hi (hv i z)), ← h, wipe_out (fun z => hi (hv i z))]⟩
  exact wipe_off o (fun _ z => z)
theorem se_lc2 {vs vs1 ix ix1 : List Nat} {i i1 : FI} {g g1 : FG} {c c1 : FT} {f : FE} (hv : ∀ j ∈ vs1, j ∈ vs) (hix : ∀ j ∈ ix, j ∈ vs) (hix1 : ∀ j ∈ ix1, j ∈ vs1) (σ : L2.St) (H : Hp) (Q : VK) (h : tE K cl (lc2E vs vs1 i g c i1 g1 c1 f) σ H Q) :
    tLc2 (tI K cl i) (tG K cl ix g) (tT K cl c) (tI K cl i1) (tG K cl ix1 g1) (tT K cl c1) (tE K cl f) vs vs1 σ H Q := by
  obtain ⟨Φ, Hs, s, b, s', T, r, e, k⟩ := h
  unfold lc2E at e
  cases q : i s with
  | none => rw [q] at e; cases e
  | some y =>
    obtain ⟨ds, s1⟩ := y
    rw [q] at e
    simp only at e
    cases q2 : lc1L vs vs1 g c i1 g1 c1 f [] ds s1 with
    | none => rw [q2] at e; cases e
    | some y =>
      obtain ⟨xs, s2⟩ := y
      rw [q2] at e
      injection e with e
      injection e with e1 e2
      subst e1
      subst e2
      refine ⟨Φ, Hs, s, ds, s1, T, r, q, fun J H1 Hs1 x1 r1 w => fun Dl hD => ?_⟩
      obtain ⟨d1, d2, d3⟩ := r1.free hD
      have rp0 : Rs (Φ.pin Dl (.lst [])) Hs1 s1 σ (upd H1 Dl (.lst [])) := (r1.laid hD _).pin d1 (fun i y e z => by
        obtain ⟨p, e1, e2, e3, e4, e5⟩ := r1.own i y e
        obtain ⟨o, eo⟩ := e5.there
        have zz : p = Dl := by
          have := e1.symm.trans z
          injection this with this
          injection this with this
          injection this
        subst zz
        rw [hD] at eo
        cases eo) upd_same
      -- the word of the outer turns
      let W : Nat → Hp → Prop := fun i H2 => ∃ (Hs2 : Hp) (s3 : DS) (σ3 : L2.St) (acc : List V) (ds' : List D), Ex Hs1 Hs2 ∧ Hs2 Dl = none ∧ σ3.length = σ.length ∧ L2.wipe σ3 vs = L2.wipe σ vs ∧ Rs (Φ.pin Dl (.lst acc)) Hs2 s3 σ3 H2 ∧ Reps Φ.C Hs2 acc ds' ∧ lc1L vs vs1 g c i1 g1 c1 f ds' (ds.drop i) s3 = some (xs, s2)
      have wx : ∀ i H2, W i H2 → Ex Hs1 H2 := fun i H2 ⟨Hs2, s3, σ3, acc, ds', x2, _, _, _, r2, _⟩ => x2.trans r2.ex
      refine ⟨fun i m H2 => m + i = ds.length ∧ W i H2, ⟨ds.length, by omega, Hs1, s1, σ, [], [], Ex.refl _, d1, rfl, rfl, rp0, .nil, q2⟩, fun i m H2 ⟨hm, hW⟩ => ?_⟩
      by_cases hi : i < ds.length
      · refine .inr ⟨w.goes i H2 hi (wx i H2 hW), W (i + 1), fun H' hN => ⟨m - 1, by omega, by omega, hN⟩, fun x H3 hy => ?_⟩
        have y := w.yields i H2 x H3 hi (wx i H2 hW) hy
        obtain ⟨Hs2, s3, σ3, acc, ds', x2, n2, hl3, hw3, r2, ha, e2⟩ := hW
        obtain ⟨d, hd, _⟩ := id y
        have hdrop : ds.drop i = d :: ds.drop (i + 1) := by
          obtain ⟨hl, he⟩ := List.getElem?_eq_some_iff.mp hd
          rw [List.drop_eq_getElem_cons hl, he]
        rw [hdrop] at e2
        unfold lc1L at e2
        have y' : YD (Φ.pin Dl (.lst acc)).C Hs1 ds i H2 x H3 := y
        obtain ⟨Hs3, x3, r3, h3⟩ := r2.yield x2 y' hd
        have rw3 := r3.wiped vs
        rw [hw3] at rw3
        cases q3 : g d (s3.wipe vs) with
        | none => rw [q3] at e2; cases e2
        | some s4 =>
          rw [q3] at e2
          simp only at e2
          refine ⟨Φ.pin Dl (.lst acc), Hs3, s3.wipe vs, d, s4, T.pin, rw3, h3, q3, fun σ4 H4 Hs4 x4 r4 o4 => ?_⟩
          have hw4 : L2.wipe σ4 vs = L2.wipe σ vs := wipe_off o4 hix
          have hl4 : σ4.length = σ.length := by rw [o4.1, wipe_length]
          refine ⟨hw4, ?_⟩
          split at e2
          · rename_i s5 q5
            refine ⟨Φ.pin Dl (.lst acc), Hs4, s4, true, s5, T.pin, r4, q5, fun H5 Hs5 x5 r5 => ?_⟩
            refine iteT ?_
            cases q6 : i1 s5 with
            | none => rw [q6] at e2; cases e2
            | some y6 =>
              obtain ⟨ds1, s6⟩ := y6
              rw [q6] at e2
              simp only at e2
              cases q7 : lc2L vs1 g1 c1 f ds' ds1 s6 with
              | none => rw [q7] at e2; cases e2
              | some y7 =>
                obtain ⟨acc', s7⟩ := y7
                rw [q7] at e2
                simp only at e2
                refine ⟨Φ.pin Dl (.lst acc), Hs5, s5, ds1, s6, T.pin, r5, q6, fun J1 H6 Hs6 x6 r6 w1 => ?_⟩
                have x26 : Ex Hs2 Hs6 := x3.trans (x4.trans (x5.trans x6))
                -- the word of the inner turns
                let W1 : Nat → Hp → Prop := fun j H7 => ∃ (Hs7 : Hp) (s8 : DS) (σ8 : L2.St) (acc8 : List V) (ds8 : List D), Ex Hs6 Hs7 ∧ Hs7 Dl = none ∧ σ8.length = σ.length ∧ L2.wipe σ8 vs1 = L2.wipe σ4 vs1 ∧ Rs (Φ.pin Dl (.lst acc8)) Hs7 s8 σ8 H7 ∧ Reps Φ.C Hs7 acc8 ds8 ∧ lc2L vs1 g1 c1 f ds8 (ds1.drop j) s8 = some (acc', s7)
                have wx1 : ∀ j H7, W1 j H7 → Ex Hs6 H7 := fun j H7 ⟨Hs7, s8, σ8, acc8, ds8, x7, _, _, _, r7, _⟩ => x7.trans r7.ex
                refine ⟨fun j m1 H7 => m1 + j = ds1.length ∧ W1 j H7, ⟨ds1.length, by omega, Hs6, s6, σ4, acc, ds', Ex.refl _, pin_none r2 n2 r6, hl4, rfl, r6, ha.mono x26, q7⟩, fun j m1 H7 ⟨hm1, hW1⟩ => ?_⟩
                by_cases hj : j < ds1.length
                · refine .inr ⟨w1.goes j H7 hj (wx1 j H7 hW1), W1 (j + 1), fun H' hN => ⟨m1 - 1, by omega, by omega, hN⟩, fun x8 H8 hy8 => ?_⟩
                  have y8 := w1.yields j H7 x8 H8 hj (wx1 j H7 hW1) hy8
                  obtain ⟨Hs7, s8, σ8, acc8, ds8, x7, n7, hl8, hw8, r7, ha8, e8⟩ := hW1
                  obtain ⟨d8, hd8, _⟩ := id y8
                  have hdrop8 : ds1.drop j = d8 :: ds1.drop (j + 1) := by
                    obtain ⟨hl, he⟩ := List.getElem?_eq_some_iff.mp hd8
                    rw [List.drop_eq_getElem_cons hl, he]
                  rw [hdrop8] at e8
                  unfold lc2L at e8
                  have y8' : YD (Φ.pin Dl (.lst acc8)).C Hs6 ds1 j H7 x8 H8 := y8
                  obtain ⟨Hs9, x9, r9, h9⟩ := r7.yield x7 y8' hd8
                  have rw9 := r9.wiped vs1
                  rw [hw8] at rw9
                  cases q9 : g1 d8 (s8.wipe vs1) with
                  | none => rw [q9] at e8; cases e8
                  | some s9 =>
                    rw [q9] at e8
                    simp only at e8
                    refine ⟨Φ.pin Dl (.lst acc8), Hs9, s8.wipe vs1, d8, s9, T.pin, rw9, h9, q9, fun σ10 H10 Hs10 x10 r10 o10 => ?_⟩
                    have hw10 : L2.wipe σ10 vs1 = L2.wipe σ4 vs1 := wipe_off o10 hix1
                    have hl10 : σ10.length = σ.length := by rw [o10.1, wipe_length, hl4]
                    refine ⟨hw10, ?_⟩
                    split at e8
                    · rename_i s11 q11
                      refine ⟨Φ.pin Dl (.lst acc8), Hs10, s9, true, s11, T.pin, r10, q11, fun H11 Hs11 x11 r11 => ?_⟩
                      refine iteT ?_
                      cases q12 : f s11 with
                      | none => rw [q12] at e8; cases e8
                      | some y12 =>
                        obtain ⟨b12, s12⟩ := y12
                        rw [q12] at e8
                        simp only at e8
                        cases q13 : froz s12 b12 with
                        | none => rw [q13] at e8; cases e8
                        | some y13 =>
                          obtain ⟨xd, s13⟩ := y13
                          rw [q13] at e8
                          simp only at e8
                          by_cases hsz : ds8.length < lineN
                          · rw [if_pos hsz] at e8
                            refine ⟨Φ.pin Dl (.lst acc8), Hs11, s11, b12, s12, T.pin, r11, q12, fun v H12 Hs12 x12 r12 h12 => ?_⟩
                            obtain ⟨Hs13, x13, r13, h13⟩ := froz_ok r12 h12 q13
                            have n13 : Hs13 Dl = none := pin_none r7 n7 r13
                            have x713 : Ex Hs7 Hs13 := x9.trans (x10.trans (x11.trans (x12.trans x13)))
                            refine ⟨acc8, (r13.pinned d3).1, ?_, Hs13, s13, σ10, acc8 ++ [v], ds8 ++ [xd], x7.trans x713, n13, hl10, hw10, r13.repin d3 d2 n13, (ha8.mono x713).append (.one h13), e8⟩
                            rw [line_eq, ha8.length]
                            exact hsz
                          · rw [if_neg hsz] at e8
                            cases e8
                    · rename_i s11 q11
                      refine ⟨Φ.pin Dl (.lst acc8), Hs10, s9, false, s11, T.pin, r10, q11, fun H11 Hs11 x11 r11 => ?_⟩
                      refine iteF ?_
                      have x711 : Ex Hs7 Hs11 := x9.trans (x10.trans x11)
                      exact ⟨Hs11, s11, σ10, acc8, ds8, x7.trans x711, pin_none r7 n7 r11, hl10, hw10, r11, ha8.mono x711, e8⟩
                    · cases e8
                · have hj' : j = ds1.length := by omega
                  refine .inl ⟨?_, ?_⟩
                  · rw [hj']
                    exact w1.stops H7 (wx1 j H7 hW1)
                  · obtain ⟨Hs7, s8, σ8, acc8, ds8, x7, n7, hl8, hw8, r7, ha8, e8⟩ := hW1
                    rw [hj', List.drop_length] at e8
                    injection e8 with e8
                    injection e8 with e9 e10
                    subst e9
                    subst e10
                    exact ⟨Hs7, s8, σ8, acc8, ds8, x2.trans (x26.trans x7), n7, hl8, (wipe_sub hv (hl8.trans hl4.symm) hw8).trans hw4, r7, ha8, e2⟩
          · rename_i s5 q5
            refine ⟨Φ.pin Dl (.lst acc), Hs4, s4, false, s5, T.pin, r4, q5, fun H5 Hs5 x5 r5 => ?_⟩
            refine iteF ?_
            have x25 : Ex Hs2 Hs5 := x3.trans (x4.trans x5)
            exact ⟨Hs5, s5, σ4, acc, ds', x2.trans x25, pin_none r2 n2 r5, hl4, hw4, r5, ha.mono x25, e2⟩
          · cases e2
      · have hi' : i = ds.length := by omega
        refine .inl ⟨?_, ?_⟩
        · rw [hi']
          exact w.stops H2 (wx i H2 hW)
        · obtain ⟨Hs2, s3, σ3, acc, ds', x2, n2, hl3, hw3, r2, ha, e2⟩ := hW
          rw [hi', List.drop_length] at e2
          injection e2 with e2
          injection e2 with e3 e4
          subst e3
          subst e4
          obtain ⟨h1, h2⟩ := r2.pinned d3
          have r3 := r2.unpin d3 d2
          have r4 := r3.back hw3 hl3
          refine k _ H2 Hs2 (x1.trans x2) r4 ⟨Dl, rfl, n2, d2, d3, fun i y e z => ?_, acc, h1, ha⟩
          have e' : (wipeD s3.ρ vs)[i]? = some (some (.own y)) := e
          obtain ⟨h3, h4⟩ := wipeD_some e'
          refine h2 i y h3 ?_
          rw [← wipe_out (σ := σ3) h4, hw3, wipe_out h4]
          exact z
end
end DL


set_option Elab.async false
set_option linter.all false
set_option maxRecDepth 100000
set_option maxHeartbeats 2000000
/-! EXCEPTIONS AS VALUES, part 1: own classes whose __init__ calls super().__init__(x), then keeps x; any built-in base -/
namespace DL
open PySem PySem.Spec PyProof.Rows L2
/-- the rest of an mro, fit for the maker of B -/
structure Tl (B : String) (bm : List Value) : Prop where
  b : bm.contains (.type B) = true
  a : bm.contains (.type "AttributeError") = false
  n : bm.contains (.type "NameError") = false
theorem tl_self {C : Addr} {bm : List Value} {v : Value} {x : Bool} (h : bm.contains v = x) (n : (v == Value.ref C) = false) : (Value.ref C :: bm).contains v = x := by
  rw [List.contains_cons, n, h]
  rfl
section
variable {M : Model} {prog : Program} {w : World} {A : Around} {E : Value → Shared → Prop} {R : Result → Shared → Prop}
variable {h : Heap} {gs : Array GenState} {dr : Drawn} {tk : Nat} {ost : OsState}
variable {nm qn : Str} {C N : Addr} {bs bm bmB : List Value} {hd : Bool} {sn : List Str} {sub : List Value} {ab : Bool}
variable {col : Option Bool} {dd : Option Addr} {k0 k1 k2 k3 k5 : Option Value} {B newId initId : String}
theorem mk_check (F : ExcBaseFacts B newId initId bmB) (T : Tl B bm) {rest : List Value} {Q : Unit → Shared → Prop}
    (hC : h.get? C = some (excClassObj nm qn C N bs bm hd sn sub ab col dd k0 k1 k2 k3 k5 newId))
    (hq : Q () ⟨h, gs, dr, tk, ost⟩) : wpAny M A (checkBuiltinCall newId ⟨.ref C :: rest, []⟩) Q E ⟨h, gs, dr, tk, ost⟩ := by
  have cB := tl_self (C := C) T.b rfl
  have st := F.noStar
  simp only [checkBuiltinCall, F.newKind, F.newSplit, F.newRow]
  repeat (first
    | refine wpAny_loadPart_at hC ?_
    | (refine wpAny_isSubtype_exc hC ?_
       rw [cB])
    | refine wpAny_staticBase_exc hC ?_
    | refine wpAny_madeBy_exc hC ?_
    | simp only [bne_self_eq_false, Bool.false_eq_true, if_false]
    | wp_step)
  exact hq
theorem mk_new (F : ExcBaseFacts B newId initId bmB) (T : Tl B bm) {rest : List Value}
    (hC : h.get? C = some (excClassObj nm qn C N bs bm hd sn sub ab col dd k0 k1 k2 k3 k5 newId)) (hr : rest.length ≤ sizeLine)
    (hq : R (.ok (.ret (.ref (h.objs.size + 1)))) ⟨(h.push (PySem.W.kdv_tup rest)).push (PySem.HandSPX.excO C h.objs.size), gs, dr, tk, ost⟩) :
    codeAny (model prog w) A (.builtin newId ⟨.ref C :: rest, []⟩) R ⟨h, gs, dr, tk, ost⟩ := by
  have en := F.ends
  have cB := tl_self (C := C) T.b rfl
  have cA := tl_self (C := C) T.a rfl
  have cN := tl_self (C := C) T.n rfl
  refine codeAny_builtinAt F.entry ?_
  unfold Builtin.«BaseException.__new__»
  refine PySem.wpAt_bind ?_
  show PySem.wpAt _ _ _ (stack >>= _) _ _ _
  refine PySem.wpAt_bind (PySem.wpAt_stack fun p below => PySem.wpAt_of_wpAny ?_)
  wp_walk
  refine PySem.wpAt_of_wpAny ?_
  rw [F.owner]
  repeat (first
    | with_reducible refine wpAny_madeHere_exc F.canon hC ?_
    | with_reducible refine wpAny_loadPart_at hC ?_
    | (with_reducible refine wpAny_isSubtype_exc hC ?_
       first
         | rw [cB]
         | rw [cA]
         | rw [cN])
    | wp_step)
  show R _ _
  rw [Heap.size_push]
  exact hq
theorem mk_type (F : ExcBaseFacts B newId initId bmB) (T : Tl B bm) {rest : List Value} {fI : Addr} {Q : PySem.Fin → Shared → Prop}
    (hC : h.get? C = some (excClassObj nm qn C N bs bm hd sn sub ab col dd k0 k1 k2 k3 k5 newId))
    (hi : W.Looks (model prog w) h (typeLookup (.ref C) "__init__") (some (.ref fI)))
    (hb : ∀ self, W.Looks (model prog w) h (bindSpecial (.ref fI) self) (.ref fI, [self])) (hr : rest.length ≤ sizeLine)
    (hq : codeAny (model prog w) A (.call (.ref fI) ⟨.ref (h.objs.size + 1) :: rest, []⟩) (fun r s' => match r with
      | .ok (.ret v) => v = .none ∧ Q (.done (.ret (.ref (h.objs.size + 1)))) s'
      | .ok _ => False
      | .error e => E e s') ⟨(h.push (PySem.W.kdv_tup rest)).push (PySem.HandSPX.excO C h.objs.size), gs, dr, tk, ost⟩) :
    wpAny (model prog w) A (Builtin.«type.__call__» ⟨.ref C :: rest, []⟩) Q E ⟨h, gs, dr, tk, ost⟩ := by
  repeat (first
    | with_reducible refine wpAny_loadPart_at hC ?_
    | with_reducible refine wpAny_madeBy_exc hC ?_
    | wp_step)
  refine codeAny_call_builtin_code (Code.quiet_builtin _ F.quiet) (mk_check F T hC (mk_new F T hC hr ?_))
  show wpAny _ _ _ _ _ _
  have up : ∀ b o, h.get? b = some o → ((h.push (PySem.W.kdv_tup rest)).push (PySem.HandSPX.excO C h.objs.size)).get? b = some o :=
    fun b o z => Heap.get?_push_of_some _ (Heap.get?_push_of_some _ z)
  have hC2 := up _ _ hC
  have hx : ((h.push (PySem.W.kdv_tup rest)).push (PySem.HandSPX.excO C h.objs.size)).get? (h.objs.size + 1) = some (PySem.HandSPX.excO C h.objs.size) := by heap_get
  have self_in : (Value.ref C :: bm).contains (.ref C) = true := by simp
  have hi2 := hi.keeps up
  have hb2 := (hb (.ref (h.objs.size + 1))).keeps up
  unfold isInstance
  repeat (first
    | with_reducible refine wpAny_loadPart_at hx ?_
    | (with_reducible refine wpAny_isSubtype_exc hC2 ?_
       rw [self_in])
    | wp_step)
  show wpAny _ _ (typeLookup (.ref C) _) _ _ _
  refine hi2.at (wpAny_holding (wpAny_bind (hb2.at (wpAny_bind (wpAny_call (codeAny_mono hq fun r s' z => ?_))))))
  rcases r with e | (v | _ | _ | _) <;> first
    | exact z
    | exact z.elim
    | skip
  obtain ⟨rfl, z⟩ := z
  first
    | exact wpAny_pure (wpAny_pure z)
    | (wp_walk
       exact z)
theorem mk_call (F : ExcBaseFacts B newId initId bmB) (T : Tl B bm) {rest : List Value} {fI : Addr}
    (hC : h.get? C = some (excClassObj nm qn C N bs bm hd sn sub ab col dd k0 k1 k2 k3 k5 newId))
    (hi : W.Looks (model prog w) h (typeLookup (.ref C) "__init__") (some (.ref fI)))
    (hb : ∀ self, W.Looks (model prog w) h (bindSpecial (.ref fI) self) (.ref fI, [self])) (hr : rest.length ≤ sizeLine)
    (hq : codeAny (model prog w) (A.under (.builtin "type.__call__" ⟨.ref C :: rest, []⟩)) (.call (.ref fI) ⟨.ref (h.objs.size + 1) :: rest, []⟩)
      (W.InitBack (h.objs.size + 1) R) ⟨(h.push (PySem.W.kdv_tup rest)).push (PySem.HandSPX.excO C h.objs.size), gs, dr, tk, ost⟩) :
    codeAny (model prog w) A (.call (.ref C) ⟨rest, []⟩) R ⟨h, gs, dr, tk, ost⟩ := by
  have g1 := tc_lookup
  have g2 := tc_bind (.ref C)
  have ty : (⟨h, gs, dr, tk, ost⟩ : Shared).TypeIs (.ref C) "type" := ⟨_, hC, rfl⟩
  refine codeAny_of_tree ?_
  show wpAny _ _ (callAny (.ref C) _) _ _ _
  repeat (any_goals (first
    | assumption
    | with_reducible refine wpAny_loadPart_at hC ?_
    | wp_step))
  refine ⟨rfl, codeAny_call_builtin_at (Code.quiet_builtin _ (by decide +kernel)) entry_typeCall (wpAny_check_type_call_sub hC (mk_type F T hC hi hb hr (codeAny_mono hq fun r s' z => ?_)))⟩
  rcases r with e | (v | _ | _ | _) <;> exact z
end
end DL


set_option Elab.async false
set_option linter.all false
set_option maxRecDepth 100000
set_option maxHeartbeats 4000000
/-! EXCEPTIONS AS VALUES, part 2: the __init__ of such a class, run on the heap -/
namespace DL
open PySem PySem.Spec PyProof.Rows L2
structure IniF (B i : String) : Prop where
  kx : PySem.W.KxsFacts B i
  kind : builtinKind i = some .slot
  row : Manifest.signature? i = some ⟨.positional, "*", B, .self, [⟨"args", .varPos, false⟩]⟩
  st : (B != "*") = true
  plain : plainId i = true
  entry : entryFor table i = some Builtin.«BaseException.__init__»
theorem ini_of {B n i : String} {bmB : List Value} (F : ExcBaseFacts B n i bmB) (k : PySem.W.KxsFacts B i) : IniF B i :=
  ⟨k, F.initKind, F.initRow, F.noStar, F.init.plain, F.initEntry⟩
theorem ini_Value : IniF "ValueError" "ValueError.__init__" := ini_of F.excBase_ValueError PySem.W.kxs_ValueError
theorem ini_Runtime : IniF "RuntimeError" "RuntimeError.__init__" := ini_of F.excBase_RuntimeError PySem.W.kxs_RuntimeError
theorem ini_Overflow : IniF "OverflowError" "OverflowError.__init__" := ini_of F.excBase_OverflowError PySem.W.kxs_OverflowError
theorem ini_Index : IniF "IndexError" "IndexError.__init__" := ini_of F.excBase_IndexError PySem.W.kxs_IndexError
theorem ini_Arith : IniF "ArithmeticError" "ArithmeticError.__init__" := ini_of F.excBase_ArithmeticError PySem.W.kxs_ArithmeticError
theorem ini_Key : IniF "KeyError" "KeyError.__init__" where
  kx := ⟨by
    show builtinType _ = _
    rw [builtinType_eq_fast]
    kernel_rfl, by first | kernel_rfl | rfl⟩
  kind := by kernel_rfl
  row := by kernel_rfl
  st := by decide +kernel
  plain := by decide +kernel
  entry := PyProof.Rows.excClass_KeyError.initEntry
section
variable {M : Model} {prog : Program} {w : World} {A : Around} {E : Value → Shared → Prop} {R : Result → Shared → Prop}
variable {h : Heap} {gs : Array GenState} {dr : Drawn} {tk : Nat} {ost : OsState} {B i : String}
variable {nm qn newId : Str} {C N : Addr} {bs bm : List Value} {hd : Bool} {sn : List Str} {sub : List Value} {ab : Bool}
variable {col : Option Bool} {dd : Option Addr} {k0 k1 k2 k3 k5 : Option Value} {nid : String}
theorem ini_bound (F : IniF B i) {e : Addr} {oe : Obj} {rest : List Value} {Q : Unit → Shared → Prop}
    (hC : h.get? C = some (excClassObj nm qn C N bs bm hd sn sub ab col dd k0 k1 k2 k3 k5 nid)) (he : h.get? e = some oe) (hc : oe.cls = .ref C) (hq : Q () ⟨h, gs, dr, tk, ost⟩) :
    wpAny M A (checkBoundCall i ⟨.ref e :: rest, []⟩) Q E ⟨h, gs, dr, tk, ost⟩ := by
  have st := F.st
  simp only [checkBoundCall, F.kind, F.row]
  repeat (first
    | (with_reducible refine wpAny_loadPart_at he ?_
       rw [hc])
    | with_reducible refine wpAny_loadPart_at hC ?_
    | wp_step)
  refine wpAny_onRaise ?_
  rw [show ∀ (a b : String) (n : Nat), Bind.check ⟨.positional, "*", B, .self, [⟨"args", .varPos, false⟩]⟩ a b n (List.map (fun x => x.fst) ({ pos := Value.ref e :: rest } : Args).kw) = pure () from fun a b n => check_star_args _ _ _ _ _ _]
  exact wpAny_pure hq
/-- the bound built-in __init__, called -/
theorem ini_call (F : IniF B i) {e u t0 : Addr} {rest : List Value} {Q : Value → Shared → Prop}
    (hC : h.get? C = some (excClassObj nm qn C N bs bm hd sn sub ab col dd k0 k1 k2 k3 k5 nid)) (he : h.get? e = some (PySem.HandSPX.excO C t0))
    (hu : h.get? u = some (PySem.W.kxs_mw i e)) (hr : rest.length ≤ sizeLine)
    (hq : ∀ h' t1, (∀ b o, b ≠ e → h.get? b = some o → h'.get? b = some o) → h'.get? e = some (PySem.HandSPX.excO C t1) → Q .none ⟨h', gs, dr, tk, ost⟩) :
    wpAny (model prog w) A (call (.ref u) rest) Q E ⟨h, gs, dr, tk, ost⟩ := by
  refine wpAny_call (codeAny_of_tree ?_)
  show wpAny _ A.in1 (callAny (.ref u) ⟨rest, []⟩) _ _ _
  simp only [callAny]
  refine wpAny_bind (wpAny_load hu ?_)
  have c1 : (Value.type "method-wrapper" == Value.type "method" || Value.type "method-wrapper" == Value.type "builtin_function_or_method" || Value.type "method-wrapper" == Value.type "method-wrapper") = true := by decide
  simp only [PySem.W.kxs_mw, c1, if_true]
  refine PySem.W.KFB.if_so (by decide) (wpAny_bind (ini_bound F hC he rfl (wpAny_bind (wpAny_pure (wpAny_pure ?_)))))
  refine ⟨plainId_quiet F.plain _, codeAny_builtin F.entry ?_⟩
  exact PySem.W.exc_init_tree (cls := .ref C) (t0 := t0) (dv := none) (c2 := .none) (c3 := .none) (b4 := .bool false) he hr fun h' k1 k2 _ => hq h' _ k1 k2
/-- self.f = v, the exception's first field: its dict is laid -/
theorem exc_store {K : PySem.W.Frag} {f : Str} {t2 : Tok} {v : Value} {x C : Addr} {fv : Array Value} {cd : ClassData}
    (X : K.In h) (hx : h.get? x = some { cls := .ref C, data := .fields fv }) (hcd : PySem.W.clsIn K C = some cd) (ho : PySem.W.mroIn K C (.type "object") = some true)
    (hp : ∀ self, refuseLoop self "__setattr__" cd.mro = pure ()) (hh : cd.hasDict = true) (ha : PySem.W.findIn K (.ref C) f = some none)
    (hq : ∀ h' tk' dx, (∀ b o, b ≠ x → h.get? b = some o → h'.get? b = some o) → h.objs.size ≤ dx → dx ≠ x →
      h'.get? x = some { cls := .ref C, dict := some dx, data := .fields fv } → h'.Ns1 dx (fun y => if y = f then some v else none) → R (.ok (.ret .none)) ⟨h', gs, dr, tk', ost⟩) :
    codeAny (model prog w) A (.call (.builtin "object.__setattr__") ⟨[.ref x, .str f t2, v], []⟩) R ⟨h, gs, dr, tk, ost⟩ := by
  have I : PySem.W.InstAt h x { cls := .ref C, data := .fields fv } C none := ⟨hx, rfl, rfl, trivial⟩
  have S := F.store_object
  have ne : x ≠ h.objs.size := Nat.ne_of_lt (Heap.lt_size hx)
  have so : PySem.W.Looks (model prog w) h (isInstance (.ref x) (.type "object")) true := I.type.andThen (PySem.W.looks_mroIn X ho)
  refine codeAny_call_builtin S.slot.plain S.entry (@PySem.W.check_slot (model prog w) _ _ ⟨h, gs, dr, tk, ost⟩ "object.__setattr__" "object" "__setattr__" (.ref x) [.str f t2, v] [] _ S.kind S.split so (S.args (.ref x) (.str f t2) v) ?_)
  have mr : PySem.W.Looks (model prog w) h (mroOf (.ref C)) cd.mro := (PySem.W.looks_clsIn X hcd).andThen .now
  have l3 : PySem.W.Looks (model prog w) h (Builtin.ObjectAttr.storeTaker? none) none := .now
  rw [PySem.W.osa_eq, refuse_eq]
  refine wpAny_bind (wpAny_bind (I.type.at (wpAny_bind (mr.at ?_))))
  rw [hp]
  refine wpAny_pure (wpAny_bind (I.type.at (wpAny_bind ((PySem.W.looks_findIn X ha).at (wpAny_bind (l3.at ?_))))))
  have hc : PySem.W.Looks (model prog w) h (classData C) cd := PySem.W.looks_clsIn X hcd
  obtain ⟨nm, bs, mro, ns, qn, hd, sn, sb, ab, col, del⟩ := cd
  dsimp only at hh
  subst hh
  unfold Builtin.ObjectAttr.storeInOwnDict Builtin.ObjectAttr.ownDictForStores
  repeat (first
    | with_reducible refine PySem.HandSPX.store_in_new ?_ ?_
    | with_reducible refine wpAny_loadPart_at hx ?_
    | with_reducible refine hc.at ?_
    | wp_step)
  · exact ⟨_, #[], _, (Heap.get?_update_ne _ _ _ _ ne.symm).trans (Heap.get?_push_at rfl rfl), rfl, fun e he => absurd he (by simp), fun _ => rfl⟩
  · intro h' tk' n' s'
    have hx1 : (h.push { cls := .type "dict", data := .dict #[] }).get? x = some { cls := .ref C, data := .fields fv } := Heap.get?_push_of_some _ hx
    refine hq h' tk' h.objs.size (fun b o hb z => ?_) (Nat.le_refl _) ne.symm ?_ n'
    · exact (s'.2 b (Nat.ne_of_lt (Heap.lt_size z))).trans ((Heap.get?_update_ne _ _ _ _ hb).trans (Heap.get?_push_of_some _ z))
    · exact (s'.2 x ne).trans (Heap.get?_update_self _ hx1 rfl)
end
end DL


set_option Elab.async false
set_option linter.all false
set_option maxRecDepth 100000
set_option maxHeartbeats 4000000
/-! EXCEPTIONS AS VALUES, part 3: the own __init__ run, the class called -/
namespace DL
open PySem PySem.Spec PyProof.Rows L2
/-- super().__init__(par); self.fld = par -/
def iniBody (par fld : Str) (p : Fin 10 → Pos) : List Stmt :=
  [.Expr (.Call (.Attribute (.Call (.Name "super" (p 0)) [] [] (p 1)) "__init__" (p 2)) [.Name par (p 3)] [] (p 4)) (p 5),
   .Assign [.Attribute (.Name "self" (p 6)) fld (p 7)] (.Name par (p 8)) (p 9)]
structure SuF (prog : Program) (K : PySem.W.Frag) (C f cda cc : Addr) (par fld qual : Str) (params : Arguments) (scope : Scope) (p : Fin 10 → Pos) : Prop where
  lk : ∃ oc od osl kV doc pm an ct, K.lookup f = some ⟨oc, od, .func (PySem.W.ksFn "__init__" qual params (iniBody par fld p) scope .none kV doc pm an (.ref cda) ct cc), osl⟩
  bi : ∀ kV doc pm an ct (a b : Value), bindArgs (PySem.W.ksFn "__init__" qual params (iniBody par fld p) scope .none kV doc pm an (.ref cda) ct cc) ⟨[a, b], []⟩ = pure [(("self" : Str), a), (par, b)]
  hd : ∃ ar, (params.posonlyargs ++ params.args).head? = some ar ∧ ar.arg = "self"
  cd : PySem.W.codeIn K (.ref cda) qual = true
  fi : ∃ ccl cdd vs ccs file tf, K.lookup cda = some ⟨ccl, cdd, .fields vs, ccs⟩ ∧ vs[2]? = some (.str file tf) ∧ ((prog.main.file : Str) == file) = true
  ce : ∃ cl cld csl, K.lookup cc = some ⟨cl, cld, .cell (some (.ref C)), csl⟩
  s1 : scope.names.lookup ("super" : Str) = some .globalImplicit
  s2 : scope.names.lookup ("__class__" : Str) = some .free
  s3 : scope.names.lookup ("self" : Str) = some .local
  s4 : scope.names.lookup par = some .local
  s5 : scope.kind = .function
  s6 : scope.isCoroutine = false
  s7 : scope.isGenerator = false
  s8 : ∀ x ∈ scope.names, x.2 ≠ .cell
  ln : ((p 2).endLine == (p 4).line) = true
  nps : (par == ("self" : Str)) = false
  ndb : (par == ("__debug__" : Str)) = false
  top : (prog.main.scope.names.lookup ("super" : Str)).isSome = false
structure SuC (K : PySem.W.Frag) (C f : Addr) (fld : Str) : Prop where
  cls : ∃ nm qn N bs bm sn sub ab col dd k0 k1 k2 k3 k5 B nid iid bmB, K.lookup C = some (excClassObj nm qn C N bs bm true sn sub ab col dd k0 k1 k2 k3 k5 nid) ∧ ExcBaseFacts B nid iid bmB ∧ Tl B bm ∧
    ∀ self, refuseLoop self "__setattr__" (.ref C :: bm) = pure ()
  ob : PySem.W.mroIn K C (.type "object") = some true
  se : PySem.W.mroIn K C (.ref C) = some true
  ini : ∃ B i, IniF B i ∧ PySem.W.ks_superIn K C C "__init__" = some (some (.builtin i)) ∧ PySem.W.subIn K (.ref C) (.type B) = some true
  opq : PySem.W.nsIn K cStatics "thirdparty.any" = some none
  find : PySem.W.findIn K (.ref C) "__init__" = some (some (.ref f))
  ty : PySem.W.typeIn K (.ref f) = some (.type "function")
  sa : PySem.W.findIn K (.ref C) "__setattr__" = some (some (.builtin "object.__setattr__"))
  no : PySem.W.findIn K (.ref C) fld = some none
section
variable {prog : Program} {w : World} {A : Around} {R : Result → Shared → Prop} {s : Shared} {K : PySem.W.Frag} {C f cda cc e t0 : Addr} {par fld qual : Str} {params : Arguments} {scope : Scope} {p : Fin 10 → Pos}
theorem init_run {mg mb : Str → Option Value} {u : Value} (T : SuC K C f fld) (S : SuF prog K C f cda cc par fld qual params scope p)
    (X : K.In s.heap) (Gn : s.heap.Ns mainGlobals mg) (hs : mg "super" = none) (Bn : s.heap.Ns builtinsNs mb) (hb : mb "super" = some (.type "super")) (nl : s.heap.NoLimit)
    (room : A.depth < recursionLimit) (hK : ∀ o, K.lookup e ≠ some o) (he : s.heap.get? e = some (PySem.HandSPX.excO C t0))
    (hq : ∀ h' tk' dx t1, (∀ b o, b ≠ e → s.heap.get? b = some o → h'.get? b = some o) → s.heap.objs.size ≤ dx → dx ≠ e →
      h'.get? e = some ({ cls := .ref C, dict := some dx, data := .fields #[.ref t1, .none, .none, .none, .bool false, .none] } : Obj) → h'.Ns1 dx (fun y => if y = fld then some u else none) →
      R (.ok (.ret .none)) ⟨h', s.gens, s.drawn, tk', s.os⟩) :
    codeAny (model prog w) A (.call (.ref f) ⟨[.ref e, u], []⟩) R s := by
  obtain ⟨oc, od, osl, kV, doc, pm, an, ct, hf⟩ := S.lk
  obtain ⟨ccl, cdd, vs, ccs, file, tf, hcda, hvs, hfile⟩ := S.fi
  obtain ⟨cl, cld, csl, hcc⟩ := S.ce
  obtain ⟨nm, qn, N, bs, bm, sn, sub, ab, col, dd, k0', k1', k2, k3, k5, B, nid, iid, bmB, hC, FB, TB, pas⟩ := T.cls
  obtain ⟨Bi, i, FI, sup, subB⟩ := T.ini
  obtain ⟨ar, har, hself⟩ := S.hd
  have hcd : PySem.W.clsIn K C = some { name := nm, bases := bs, mro := .ref C :: bm, ns := N, qualname := qn, hasDict := true, slotNames := sn, subclasses := sub, abstract := ab, collection := col, hasDel := false } := by
    unfold PySem.W.clsIn
    rw [hC] <;> rfl
  have ps := S.nps
  obtain ⟨hp, gs, dr, tk, ost⟩ := s
  refine ks_codeAny_call_defAt (fd := PySem.W.ksFn "__init__" qual params (iniBody par fld p) scope .none kV doc pm an (.ref cda) ct cc) (body := iniBody par fld p) (binds := [(("self" : Str), .ref e), (par, u)]) room (X _ _ hf) rfl nl
    (PySem.W.codeRec_of X S.cd) rfl (.of_eq (S.bi kV doc pm an ct _ _)) S.s8 ?_ (fun h0 hns k0 => ?_) S.s6 S.s7 S.s5
  · intro x hx
    rcases List.mem_cons.mp hx with rfl | hx
    · exact S.s3
    · rcases List.mem_cons.mp hx with rfl | hx
      · exact S.s4
      · cases hx
  have X0 : K.In h0 := X.keeps k0
  have he0 := k0 _ _ he
  have hv1 : (fun x => ([(("self" : Str), Value.ref e), (par, u)] : List (Str × Value)).reverse.lookup x) "self" = some (.ref e) := by
    show ([(par, u), ("self", Value.ref e)] : List (Str × Value)).lookup ("self" : Str) = _
    have : (("self" : Str) == par) = false := by
      rw [beq_eq_false_iff_ne] at ps ⊢
      exact fun z => ps z.symm
    rw [List.lookup_cons, this]
    rfl
  have hv2 : (fun x => ([(("self" : Str), Value.ref e), (par, u)] : List (Str × Value)).reverse.lookup x) par = some u := by
    show ([(par, u), ("self", Value.ref e)] : List (Str × Value)).lookup par = _
    rw [List.lookup_cons, beq_self_eq_true]
  have Ie : PySem.W.InstAt h0 e (PySem.HandSPX.excO C t0) C none := ⟨he0, rfl, rfl, trivial⟩
  obtain ⟨oD, hD1, hD2⟩ : ∃ oD, h0.get? C = some oD ∧ oD.data = .cls { name := nm, bases := bs, mro := .ref C :: bm, ns := N, qualname := qn, hasDict := true, slotNames := sn, subclasses := sub, abstract := ab, collection := col, hasDel := false } := ⟨_, X0 _ _ hC, rfl⟩
  have hint : interactive (callEnv (PySem.W.ksFn "__init__" qual params (iniBody par fld p) scope .none kV doc pm an (.ref cda) ct cc) hp.objs.size f) = false := by
    show (scope.kind == .module && _) = false
    rw [S.s5]
    rfl
  have few : eval (.Call (.Attribute (.Call (.Name "super" (p 0)) [] [] (p 1)) "__init__" (p 2)) [.Name par (p 3)] [] (p 4)) (PySem.W.ksEnv qual scope hp.objs.size f (.ref cda) cc) = (do
      let ov ← attributeBase (.Call (.Name "super" (p 0)) [] [] (p 1)) "__init__" (PySem.W.ksEnv qual scope hp.objs.size f (.ref cda) cc) (eval (.Call (.Name "super" (p 0)) [] [] (p 1)) (PySem.W.ksEnv qual scope hp.objs.size f (.ref cda) cc))
      standAt (p 2).atName
      let (fv, first) ← holding [ov] (getMethod ov "__init__" (do return (← importBound (.Call (.Name "super" (p 0)) [] [] (p 1)) (PySem.W.ksEnv qual scope hp.objs.size f (.ref cda) cc)).getD true))
      callWith (p 4) fv first (backTo (p 4) (starEach [.Name par (p 3)] (PySem.W.ksEnv qual scope hp.objs.size f (.ref cda) cc))) []) := by
    rw [arm_eval_Call]
    have mp : ∀ (o : Expr) (env : Env), methodCallPos true o env (p 2) (p 4) = pure (p 4) := fun o env => by
      unfold methodCallPos
      rw [S.ln]
      rfl
    refine bind_congr fun ov => bind_congr fun _ => ?_
    unfold methodCall
    refine bind_congr fun fx => ?_
    show methodCallPos true _ _ _ _ >>= _ = _
    rw [mp, pure_bind]
    rfl
  refine ks_wpAt_execs_cons (ks_wpAt_Expr_any (ks_wpAt_MethodCall (ks_wpAt_super_base (env := PySem.W.ksEnv qual scope hp.objs.size f (.ref cda) cc) S.s1 S.s2 rfl rfl (X0 _ _ hf) rfl har rfl (X0 _ _ hcda) rfl hvs hfile S.top ?_) few) hint rfl)
  refine PySem.W.ks_loadName_global S.s5 S.s1 (Calls.loadGlobal_builtin (env := PySem.W.ksEnv qual scope hp.objs.size f (.ref cda) cc) (Gn.keeps k0) hs (Bn.keeps k0) hb ⟨rfl, ?_⟩)
  refine wpAny_loadName_free S.s5 S.s2 rfl ⟨_, X0 _ _ hcc, rfl⟩ ?_
  rw [hself]
  refine wpAny_loadName_local S.s5 S.s3 hns hv1 ?_
  refine ks_wpAny_isType_cls hD1 hD2 ⟨rfl, ?_⟩
  refine ks_wpAny_call_super hD1 hD2 he0 rfl (fun c z => by cases z) (PySem.W.looks_mroIn X0 T.se) (fun h1 so1 k1 => ?_)
  have X1 : K.In h1 := X0.keeps k1
  have he1 := k1 _ _ he0
  have Ie1 : PySem.W.InstAt h1 e (PySem.HandSPX.excO C t0) C none := ⟨he1, rfl, rfl, trivial⟩
  have hal : PySem.W.alongIn K "__init__" (((Value.ref C :: bm).dropWhile (· != .ref C)).drop 1) = some (some (.builtin i)) := by
    unfold PySem.W.ks_superIn at sup
    rw [hcd] at sup
    exact sup
  refine PySem.W.kxs_getMethod FI.kx so1 (PySem.W.looks_opaque X1 T.opq) (l₀ := .ref C :: bm) (fun A' Q' E' s' k' q' => wpAny_bind ((PySem.W.looks_clsIn X1 hcd) A' _ E' s' k' (wpAny_pure q'))) rfl X1 hal
    (Ie1.type.andThen (PySem.W.looks_subIn X1 subB)) (PySem.W.ks_ne X1 Ie1 hcd) rfl ?_
  have kw : ∀ b o, h1.get? b = some o → (h1.push (PySem.W.kxs_mw i e)).get? b = some o := fun b o z => Heap.get?_push_of_some _ z
  have hu : (h1.push (PySem.W.kxs_mw i e)).get? h1.objs.size = some (PySem.W.kxs_mw i e) := Heap.get?_push_at rfl rfl
  have hns2 : (h1.push (PySem.W.kxs_mw i e)).Ns hp.objs.size (fun x => ([(("self" : Str), Value.ref e), (par, u)] : List (Str × Value)).reverse.lookup x) := (hns.keeps k1).keeps kw
  refine PySem.W.kxs_callWith (i := i) (x := e) (u := h1.objs.size) rfl (Calls.evalArgs_plain (Calls.spliced_cons (wpAny_Name (wpAny_loadName_local S.s5 S.s4 hns2 hv2 (Calls.spliced_nil ⟨hu, ?_⟩)) S.ndb)))
  show wpAny _ _ (call (.ref h1.objs.size) [u]) _ _ _
  have C2 : (h1.push (PySem.W.kxs_mw i e)).get? C = some (excClassObj nm qn C N bs bm true sn sub ab col dd k0' k1' k2 k3 k5 nid) := kw _ _ (X1 _ _ hC)
  refine ini_call FI C2 (kw _ _ he1) hu (by rw [sizeLine_eq]; show 1 ≤ _; omega) (fun h2 t1 k2' he2 => ?_)
  have up : ∀ b o, b ≠ e → hp.get? b = some o → h2.get? b = some o := fun b o n z => k2' b o n (kw _ _ (k1 _ _ (k0 _ _ z)))
  have hne : hp.objs.size ≠ e := fun z => by
    have := Heap.lt_size he
    rw [← z] at this
    exact absurd this (Nat.lt_irrefl _)
  have hns3 : h2.Ns hp.objs.size (fun x => ([(("self" : Str), Value.ref e), (par, u)] : List (Str × Value)).reverse.lookup x) := by
    obtain ⟨oL, es, ep, hL, r⟩ := hns2
    exact ⟨oL, es, ep, k2' _ _ hne hL, r⟩
  have X2 : K.In h2 := fun b o z => up b o (fun y => hK o (by rw [← y]; exact z)) (X _ _ z)
  refine ks_wpAt_execs_cons (ks_wpAt_Assign_Attr (PySem.wpAt_of_wpAny ?_))
  refine wpAny_Name (env := PySem.W.ksEnv qual scope hp.objs.size f (.ref cda) cc) (wpAny_loadName_local (m := fun x => ([(("self" : Str), Value.ref e), (par, u)] : List (Str × Value)).reverse.lookup x) S.s5 S.s4 hns3 hv2 ?_) S.ndb
  refine wpAny_Name (env := PySem.W.ksEnv qual scope hp.objs.size f (.ref cda) cc) (wpAny_loadName_local (m := fun x => ([(("self" : Str), Value.ref e), (par, u)] : List (Str × Value)).reverse.lookup x) S.s5 S.s3 hns3 hv1 ?_)
  refine PySem.W.set_plain X2 (ox := PySem.HandSPX.excO C t1) (od := none) ⟨he2, rfl, rfl, trivial⟩ T.sa ?_
  refine exc_store X2 he2 hcd T.ob pas rfl T.no (fun h3 tk3 dx k3' dn dne hx3 n3 => ?_)
  have sz : hp.objs.size ≤ h2.objs.size := by
    obtain ⟨oL, es, ep, hL, r⟩ := hns3
    exact Nat.le_of_lt (Heap.lt_size hL)
  have fin := hq h3 tk3 dx t1 (fun b o n z => k3' b o n (up b o n z)) (Nat.le_trans sz dn) dne hx3 n3
  exact PySem.wpAt_of_wpAny (wpAny_pure fin)
end
end DL


set_option Elab.async false
set_option linter.all false
set_option maxRecDepth 100000
set_option maxHeartbeats 4000000
/-! EXCEPTIONS AS VALUES, part 4: rules of expressions -/
namespace DL
open PySem PySem.Spec PyProof.Rows L2
section
variable {X : Cx} {pins : List (Addr × Obj)} {σ : L2.St} {H : Hp} {a C dx : Addr} {f : Str} {y : V} {u : Value}
/-- the first field of an exception is laid beside it -/
theorem lay_field {hp h' : Heap} {gs : Array GenState} {dr : Drawn} {tk tk' : Nat} {ost : OsState} {t1 : Addr} (I : Inv X pins σ H ⟨hp, gs, dr, tk, ost⟩) (e : H a = some (exo a C none))
    (k : ∀ b o, b ≠ a → hp.get? b = some o → h'.get? b = some o) (dn : hp.objs.size ≤ dx) (dne : dx ≠ a)
    (hx : h'.get? a = some ({ cls := .ref C, dict := some dx, data := .fields #[.ref t1, .none, .none, .none, .bool false, .none] } : Obj))
    (hn : h'.Ns1 dx (fun z => if z = f then some u else none)) (ry : RelV y u) :
    H dx = none ∧ Inv X pins σ (upd (upd H dx (exd dx [(f, y)])) a (exo a C (some dx))) ⟨h', gs, dr, tk', ost⟩ := by
  have hnd : H dx = none := I.hok.fresh dn
  have old : ∀ {b : Addr} {o : Obj}, hp.get? b = some o → b ≠ dx := fun {b o} z => Nat.ne_of_lt (Nat.lt_of_lt_of_le (Heap.lt_size z) dn)
  have na : ∀ {b : Addr}, H b = none → b ≠ a := fun {b} n z => by
    rw [z, e] at n
    cases n
  have two : ∀ {b : Addr} {o : HO}, H b = some o → o ≠ exo a C none → upd (upd H dx (exd dx [(f, y)])) a (exo a C (some dx)) b = some o := fun {b o} z n => by
    have nb : b ≠ a := fun w => n (by
      rw [w, e] at z
      exact (Option.some.inj z).symm)
    rw [upd_ne nb, upd_ne (ne_of_none z hnd)]
    exact z
  have U : Un X.fs [] H (upd (upd H dx (exd dx [(f, y)])) a (exo a C (some dx))) hp h' :=
    { keep := fun b o z n _ _ => k b o (na n) z
      slot := fun b o z n _ _ => ⟨o.slots, k b o (na n) z⟩
      free := fun b o z n _ => by
        rw [upd_ne (na n), upd_ne (old z)]
        exact n
      there := fun b o z _ => by
        by_cases hb : b = a
        · rw [hb]
          exact ⟨_, hx⟩
        · exact ⟨o, k b o hb z⟩
      tups := fun b xs z => two z fun w => exo_tup w.symm
      frzs := fun b o v z => two z fun w => exo_frz w.symm
      tbls := fun b ps z => ⟨#[], by
        rw [two z fun w => exo_tbl w.symm]
        simp⟩ }
  refine ⟨hnd, I.un (t' := tk') U fun b o z => ?_⟩
  by_cases hb : b = a
  · subst hb
    rw [upd_same] at z
    cases z
    exact exo_ok hx
  · rw [upd_ne hb] at z
    by_cases hd : b = dx
    · subst hd
      rw [upd_same] at z
      cases z
      exact exd_ok hn (relO_put (fs := []) ry fun g => True.intro)
    · rw [upd_ne hd] at z
      refine (I.hok b o z).stay (fun c v hc w => k c v ?_ w) (fun c hc => two hc fun w => exo_own w.symm) fun c xs hc => two hc fun w => exo_tup w.symm
      rcases hc with hc | hc
      · rw [hc]
        exact hb
      · exact at_ne e hc exo_own
end
/-- a class without own __init__ over built-ins -/
structure PlC (K : PySem.W.Frag) (C : Addr) : Prop where
  cls : ∃ B nid iid bmB, ExcBaseFacts B nid iid bmB ∧ PySem.W.excInitIn K C bmB nid = true ∧ PySem.W.findIn K (.ref C) "__init__" = some (some (.builtin iid))
/-- C(es), no own __init__ -/
def tMk0 (C : Addr) (ta : TA) : TE := fun σ H Q => ta σ H fun vs H1 => vs.length ≤ 1000 ∧ ∀ a, H1 a = none → Q (.ref a) (upd H1 a (exo a C none))
/-- C(e), its own __init__ keeping e as fld -/
def tMk1 (C : Addr) (fld : Str) (ta : TE) : TE := fun σ H Q => ta σ H fun v H1 => ∀ a dx, H1 a = none → H1 dx = none → dx ≠ a → Q (.ref a) (upd (upd H1 dx (exd dx [(fld, v)])) a (exo a C (some dx)))
section
variable {X : Cx} {C f cda cc : Addr} {x par fld qual : Str} {params : Arguments} {scope : Scope} {pp : _root_.Fin 10 → Pos} {e : Expr} {es : List Expr} {ta : TA} {te : TE} {p pos : Pos}
theorem run_mk0 {pins : List (Addr × Obj)} {σ : L2.St} {H : Hp} {s : Shared} {Q : VK} {us : List Value} (T : PlC X.K C) (I : Inv X pins σ H s) (hl : us.length ≤ 1000) (q : ∀ a, H a = none → Q (.ref a) (upd H a (exo a C none))) :
    wpAny (model X.prog X.w) X.A (call (.ref C) us) (EP X pins σ Q) X.xe s := by
  obtain ⟨B, nid, iid, bmB, F, hin, hi⟩ := T.cls
  obtain ⟨nm, N', qn, bs, bm, hdct, sn, sub, ab, col, dd, k0, k1, k2, k3, k5, hC, hT⟩ := PySem.W.excInit_of I.kIn hin
  obtain ⟨hp, gs, dr, tk, ost⟩ := s
  refine PySem.W.call_B F hT hC (PySem.W.looks_findIn I.kIn hi) (by rw [sizeLine_eq]; omega) (fun h' k he _ => ?_)
  have sz : hp.objs.size ≤ hp.objs.size + 1 := Nat.le_succ _
  have hn : H (hp.objs.size + 1) = none := I.hok.fresh sz
  exact ⟨.ref (hp.objs.size + 1), _, I.laid (t' := tk) (a := hp.objs.size + 1) (o := exo (hp.objs.size + 1) C none) (h' := h') k sz (exo_ok he), rfl, q _ hn⟩
theorem pe_mk0 (T : PlC X.K C) (kC : PySem.W.keepIn X.K (.ref C) = true) (hg : Gl X x) (hm : X.mg x = some (.ref C)) (ha : PA X (e :: es) ta) (hdb : (x == ("__debug__" : Str)) = false)
    (he : starEach (e :: es) X.env = (false, eval e X.env) :: starEach es X.env) (hpl : (backTo pos (starEach es X.env)).any (·.1) = false) : PE X (.Call (.Name x p) (e :: es) [] pos) (tMk0 C ta) := by
  refine ⟨fun pins s σ H Q I h => wpAny_Call_Name_kw (ld_glob I hg hm ?_ hdb)⟩
  refine PySem.W.callWith_K (h₀ := X.base) I.ok.mod.kin kC (thn (ha.run pos pins s σ H _ I h) fun us s1 ⟨vs, H1, I1, r1, hz, q1⟩ => ⟨I1.kIn, ?_⟩) he hpl
  exact run_mk0 T I1 (by show us.length ≤ 1000; rw [← Paired.length r1]; exact hz) q1
theorem pe_mk00 (T : PlC X.K C) (kC : PySem.W.keepIn X.K (.ref C) = true) (hg : Gl X x) (hm : X.mg x = some (.ref C)) (hdb : (x == ("__debug__" : Str)) = false) : PE X (.Call (.Name x p) [] [] pos) (tMk0 C tNil) := by
  refine ⟨fun pins s σ H Q I h => wpAny_Call_Name_kw (ld_glob I hg hm ?_ hdb)⟩
  refine PySem.W.callWith_K0 I.kIn kC ?_
  obtain ⟨_, q⟩ := h
  exact run_mk0 T I (Nat.zero_le _) q
theorem pe_mk1 {k : Nat} (T : SuC X.K C f fld) (S : SuF X.prog X.K C f cda cc par fld qual params scope pp) (hr : Room (k + 1) X.A) (kC : PySem.W.keepIn X.K (.ref C) = true) (hs : X.mg "super" = none) (hg : Gl X x) (hm : X.mg x = some (.ref C))
    (ha : PE X e te) (hdb : (x == ("__debug__" : Str)) = false) (he : starEach [e] X.env = (false, eval e X.env) :: starEach [] X.env) : PE X (.Call (.Name x p) [e] [] pos) (tMk1 C fld te) := by
  refine ⟨fun pins s σ H Q I h => wpAny_Call_Name_kw (ld_glob I hg hm ?_ hdb)⟩
  refine PySem.W.callWith_K (h₀ := X.base) I.ok.mod.kin kC ?_ he rfl
  rw [he]
  show wpAny _ _ (spliced ((false, eval e X.env) :: backTo pos (starEach [] X.env))) _ _ s
  refine Calls.spliced_cons (thn (ha.run pins s σ H _ I h) fun u s1 ⟨v, H1, I1, r1, q1⟩ => Calls.spliced_nil ⟨I1.kIn, ?_⟩)
  show wpAny _ _ (call (.ref C) [u]) _ _ _
  obtain ⟨nm, qn, N, bs, bm, sn, sub, ab, col, dd, k0, k1, k2, k3, k5, B, nid, iid, bmB, hC, FB, TB, pas⟩ := T.cls
  obtain ⟨hp, gs, dr, tk, ost⟩ := s1
  have sz : hp.objs.size ≤ hp.objs.size + 1 := Nat.le_succ _
  have hn : H1 (hp.objs.size + 1) = none := I1.hok.fresh sz
  have kk : ∀ b o, hp.get? b = some o → ((hp.push (PySem.W.kdv_tup [u])).push (PySem.HandSPX.excO C hp.objs.size)).get? b = some o := fun b o z => Heap.get?_push_of_some _ (Heap.get?_push_of_some _ z)
  have hget : ((hp.push (PySem.W.kdv_tup [u])).push (PySem.HandSPX.excO C hp.objs.size)).get? (hp.objs.size + 1) = some (PySem.HandSPX.excO C hp.objs.size) := by heap_get
  have I2 : Inv X pins σ (upd H1 (hp.objs.size + 1) (exo (hp.objs.size + 1) C none)) ⟨(hp.push (PySem.W.kdv_tup [u])).push (PySem.HandSPX.excO C hp.objs.size), gs, dr, tk, ost⟩ :=
    I1.laid (t' := tk) (a := hp.objs.size + 1) (o := exo (hp.objs.size + 1) C none) (h' := (hp.push (PySem.W.kdv_tup [u])).push (PySem.HandSPX.excO C hp.objs.size)) kk sz (exo_ok hget)
  obtain ⟨mb, hb1, hb2⟩ := I2.mod.blt
  have hr1 : Room k (X.A.under (.builtin "type.__call__" ⟨[.ref C, u], []⟩)) := hr.make C [u] []
  refine wpAny_call (mk_call FB TB (I1.kIn _ _ hC) (PySem.W.looks_findIn I1.kIn T.find) (fun self => PySem.W.bind_fn I1.kIn self T.ty) (by rw [sizeLine_eq]; show 1 ≤ _; omega) ?_)
  refine init_run T S I2.kIn (I2.mod.glob.keeps I2.bk) hs (hb1.keeps I2.bk) ((hb2 "super" (by decide)).trans (by kernel_rfl)) I2.nolimit hr1.depth (fun o z => ?_) hget (fun h' tk' dx t1 k dn dne hx hns => ?_)
  · exact absurd (Heap.lt_size (I1.kIn _ _ z)) (by show ¬ (hp.objs.size + 1 < hp.objs.size); omega)
  · obtain ⟨hnd, J⟩ := lay_field (tk' := tk') I2 upd_same k dn dne hx hns r1
    have hnd1 : H1 dx = none := by
      rw [upd_ne dne] at hnd
      exact hnd
    have e3 : upd (upd (upd H1 (hp.objs.size + 1) (exo (hp.objs.size + 1) C none)) dx (exd dx [(fld, v)])) (hp.objs.size + 1) (exo (hp.objs.size + 1) C (some dx)) = upd (upd H1 dx (exd dx [(fld, v)])) (hp.objs.size + 1) (exo (hp.objs.size + 1) C (some dx)) := by
      funext b
      by_cases z1 : b = hp.objs.size + 1
      · rw [z1, upd_same, upd_same]
      · rw [upd_ne z1, upd_ne z1]
        by_cases z2 : b = dx
        · rw [z2, upd_same, upd_same]
        · rw [upd_ne z2, upd_ne z2, upd_ne z1]
    rw [e3] at J
    exact ⟨rfl, .ref (hp.objs.size + 1), _, J, rfl, q1 _ dx hn hnd1 dne⟩
end
end DL


set_option Elab.async false
set_option linter.all false
set_option maxRecDepth 100000
set_option maxHeartbeats 4000000
/-! EXCEPTIONS AS VALUES, part 5: isinstance, a field -/
namespace DL
open PySem PySem.Spec PyProof.Rows L2
theorem exat_inst {P : Program} {w : World} {H : Hp} {h : Heap} {a C : Addr} {fs : List (Str × V)} (ok : HOk P w H h) (x : ExAt H a C fs) : ∃ ox od, PySem.W.InstAt h a ox C od ∧ ∃ vs, ox.data = .fields vs := by
  rcases x with ⟨e, _⟩ | ⟨dx, e1, e2⟩
  · obtain ⟨t1, ho⟩ := exo_at ok e
    exact ⟨_, none, ⟨ho, rfl, rfl, trivial⟩, _, rfl⟩
  · obtain ⟨t1, ho⟩ := exo_at ok e1
    obtain ⟨mA, hn, _⟩ := exd_at ok e2
    obtain ⟨oD, es, ep, hoD, _⟩ := hn
    exact ⟨_, some oD, ⟨ho, rfl, rfl, hoD⟩, _, rfl⟩
def rIsX (K : PySem.W.Frag) : List V → Hp → VK → Prop := fun xs H Q => ∃ (a C : Addr) (fs : List (Str × V)) (c : V) (u : Value) (b : Bool), xs = [.ref a, c] ∧ ExAt H a C fs ∧ (PySem.W.clsIn K C).isSome = true ∧ ExcC K C ∧ ClsV c u ∧ PySem.W.kitOne K (.ref C) u = some b ∧ Q (.bl b) H
theorem call_isX {X : Cx} : CallR X (.builtin "isinstance") (rIsX X.K) := by
  intro pins s σ H xs us Q I r h
  obtain ⟨a, C, fs, c, u, b, rfl, x, hc, T, k, e, q⟩ := h
  cases r with
  | cons rx rr =>
    cases rr with
    | cons rt rr =>
      cases rr
      cases rx
      have e2 := k.eq rt
      subst e2
      obtain ⟨ox, od, J, _⟩ := exat_inst I.hok x
      exact PySem.W.kia_one (PySem.W.kitx_exc hc T.hg T.hk T.hs T.ha T.hn T.ht T.hm) I.kIn J e (fun z => nomatch z) fun tk => ⟨.bl b, H, I.kept (t' := tk) fun _ _ z => z, rfl, q⟩
def tXa (K : PySem.W.Frag) (f : Str) (te : TE) : TE := fun σ H Q => te σ H fun x H1 => ∃ (a C : Addr) (fs : List (Str × V)) (v : V), x = .ref a ∧ ExAt H1 a C fs ∧ XfC K C ∧ PySem.W.findIn K (.ref C) f = some none ∧ fs.lookup f = some v ∧ Q v H1
theorem pe_xa {X : Cx} {e : Expr} {te : TE} {pos : Pos} {f : Str} (he : PE X e te) (hb : attributeBase e f X.env (eval e X.env) = eval e X.env) : PE X (.Attribute e f pos) (tXa X.K f te) := by
  refine ⟨fun pins s σ H Q I h => attr_of hb (thn (he.run pins s σ H _ I h) fun u s1 hh => ?_)⟩
  obtain ⟨x, H1, I1, rx, a, C, fs, v, rfl, hx, T, hno, l, q⟩ := hh
  obtain rfl : u = Value.ref a := rx
  rcases hx with ⟨_, z⟩ | ⟨dx, e1, e2⟩
  · rw [z] at l
    cases l
  · obtain ⟨t1, ho⟩ := exo_at I1.hok e1
    obtain ⟨mA, hns, hr⟩ := exd_at I1.hok e2
    obtain ⟨od, hod, hl⟩ := lookIn_ns hns
    obtain ⟨u, hu, ru⟩ := RelO.some_of (v := v) (o := mA f) (by rw [← l]; exact hr f)
    have J : PySem.W.InstAt s1.heap a _ C (some od) := ⟨ho, rfl, rfl, hod⟩
    exact HandSPX.exc_get I1.kIn J T.ga T.gg T.exC (PySem.W.findObj_own T.hdC hno rfl (by rw [hl, hu])) (handed_of ru) ⟨v, H1, I1.tok _, ru, q⟩
end DL


set_option Elab.async false
set_option linter.all false
set_option maxRecDepth 100000
set_option maxHeartbeats 4000000
/-! THE DATA LAYER, defs that are called where no repr runs (their texts may be asked) -/
namespace DL
open PySem PySem.Spec PyProof.Rows L2
/-- FnOk, for the places where nothing is being shown -/
structure FnG (P : Program) (w : World) (K : PySem.W.Frag) (mg : Str → Option Value) (base : Heap) (CX : CXT) (k : Nat) (f : Addr) (fd : FuncData) (ps : List Str) (sp : Sp) : Prop where
  len : ∀ vs H Q E, sp vs H Q E → vs.length = ps.length
  run : ∀ (A : Around) (outer : List Env) (s : Shared) (H : Hp) (args : Args) (us : List Value) (vs : List V) (Q : VK) (E : XK), Room k A → A.guards = some [] → Env0 P w K mg base A outer s H →
    BindsTo s fd args (ps.zip us) → Vals vs us → sp vs H Q E → codeAny (model P w) A (.call (.ref f) args) (CR CX outer P w H s Q E) s
section
variable {P : Program} {w : World} {K : PySem.W.Frag} {mg : Str → Option Value} {base : Heap} {CX : CXT} {k : Nat} {f : Addr} {fd : FuncData} {ps : List Str} {sp : Sp}
theorem FnG.of (F : FnOk P w K mg base CX k f fd ps sp) : FnG P w K mg base CX k f fd ps sp := ⟨F.len, fun A outer s H args us vs Q E hr _ => F.run A outer s H args us vs Q E hr⟩
theorem FnG.mono {j : Nat} (F : FnG P w K mg base CX j f fd ps sp) (h : j ≤ k) : FnG P w K mg base CX k f fd ps sp :=
  ⟨F.len, fun A outer s H args us vs Q E hr => F.run A outer s H args us vs Q E (hr.mono h)⟩
theorem deeper_guards {A : Around} {env : Env} (h : A.guards = some []) : (A.deeper env).guards = some [] := h
end
section
variable {X : Cx} {CX : CXT} {k : Nat} {f : Addr} {fd : FuncData} {ps : List Str} {sp : Sp} {E : XK} {x : Str} {p pos : Pos} {e : Expr} {es : List Expr} {t : TA}
theorem run_g {pins : List (Addr × Obj)} {σ : L2.St} {H : Hp} {s : Shared} {Q : VK} {us : List Value} {vs : List V} (F : FnG X.prog X.w X.K X.mg X.base CX k f fd ps sp) (hr : Room k X.A) (hgd : X.A.guards = some []) (hb : Binds X.K fd ps []) (hx : Passes CX X E)
    (I : Inv X pins σ H s) (r : Vals vs us) (h : sp vs H Q E) : wpAny (model X.prog X.w) X.A (call (.ref f) us) (EP X pins σ Q) X.xe s := by
  have hl : us.length = ps.length := by
    rw [← r.length]
    exact F.len _ _ _ _ h
  have hb2 := hb s us I.kIn (by rw [List.append_nil]; exact hl)
  rw [List.append_nil] at hb2
  refine wpAny_call (codeAny_mono (F.run X.A X.stack s H ⟨us, []⟩ us vs Q E hr hgd I.env0 hb2 r h) fun res s' hq => ?_)
  match res, hq with
  | .error er, hq => exact hx pins σ H s er s' I hq
  | .ok (.ret u), hq => exact I.after hq
  | .ok .next, hq => exact hq.elim
  | .ok .brk, hq => exact hq.elim
  | .ok .cont, hq => exact hq.elim
def tCallG (sp : Sp) (E : XK) (t : TA) : TE := fun σ H Q => t σ H fun vs H1 => sp vs H1 Q E
theorem pe_callG (F : FnG X.prog X.w X.K X.mg X.base CX k f fd ps sp) (hr : Room k X.A) (hgd : X.A.guards = some []) (hg : Gl X x) (hm : X.mg x = some (.ref f)) (hk : PySem.W.keepIn X.K (.ref f) = true) (hb : Binds X.K fd ps []) (hx : Passes CX X E)
    (ha : PA X (e :: es) t) (hdb : (x == ("__debug__" : Str)) = false) (he : starEach (e :: es) X.env = (false, eval e X.env) :: starEach es X.env) (hpl : (backTo pos (starEach es X.env)).any (·.1) = false) :
    PE X (.Call (.Name x p) (e :: es) [] pos) (tCallG sp E t) :=
  ⟨fun pins s σ H Q I h => wpAny_Call_Name_kw (ld_glob I hg hm (PySem.W.callWith_K (h₀ := X.base) I.ok.mod.kin hk
    (thn (ha.run pos pins s σ H _ I h) fun us s1 ⟨vs, H1, I1, r, q⟩ => ⟨I1.kIn, run_g F hr hgd hb hx I1 r q⟩) he hpl) hdb)⟩
theorem pe_callG0 (F : FnG X.prog X.w X.K X.mg X.base CX k f fd ps sp) (hr : Room k X.A) (hgd : X.A.guards = some []) (hg : Gl X x) (hm : X.mg x = some (.ref f)) (hk : PySem.W.keepIn X.K (.ref f) = true) (hb : Binds X.K fd ps []) (hx : Passes CX X E)
    (hdb : (x == ("__debug__" : Str)) = false) : PE X (.Call (.Name x p) [] [] pos) (tCallG sp E tNil) :=
  ⟨fun pins s σ H Q I h => wpAny_Call_Name_kw (ld_glob I hg hm (PySem.W.callWith_K0 I.kIn hk (run_g (us := []) F hr hgd hb hx I .nil h)) hdb)⟩
end
/-- a def by its body -/
theorem fnG_of {CX : CXT} {P : Program} {w : World} {K : PySem.W.Frag} {mg : Str → Option Value} {base : Heap} {k : Nat} {f : Addr} {name qual : Str} {params : Arguments} {body : List Stmt} {scope : Scope} {dV kV doc pm cdv ct oc : Value} {an od : Option Addr}
    {osl : Array (Option Value)} {N ps : List Str} {sp : Sp} (lk : K.lookup f = some ⟨oc, od, .func (PySem.W.fnOf name qual params body scope dV kV doc pm an cdv ct), osl⟩)
    (hcd : PySem.W.codeIn K cdv qual = true) (S : FnScope N ps scope) (len : ∀ vs H Q E, sp vs H Q E → vs.length = ps.length)
    (hbody : ∀ (A : Around) (outer : List Env) (s : Shared) (H : Hp) (vs : List V) (Q : VK) (E : XK), Room k (A.deeper (envOfC qual scope s.heap.objs.size f cdv)) → A.guards = some [] → sp vs H Q E →
      ∃ t, PSs (cxOf CX P w K mg base N qual scope f cdv A outer s H E) body t ∧ t { nx := fun _ H' => Q .non H', rt := Q } (start N vs) H) :
    FnG P w K mg base CX (k + 1) f (PySem.W.fnOf name qual params body scope dV kV doc pm an cdv ct) ps sp := by
  refine ⟨len, fun A outer s H args us vs Q E hr hgd e0 hb r hsp => ?_⟩
  have up : ∀ b o, base.get? b = some o → s.heap.get? b = some o := fun b o z => (e0.bs b o z).1
  have KX : K.In s.heap := e0.mod.kin.keeps up
  have hkind : ∀ y ∈ ps.zip us, scope.names.lookup y.1 = some .local ∨ (scope.names.lookup y.1 = some .cell ∧ ((cellsFrom (s.heap.objs.size + 1) scope.names []).lookup y.1).isSome = true) := by
    intro y hy
    obtain ⟨n, v⟩ := y
    rcases S.par n (List.of_mem_zip hy).1 with q | q
    · exact .inl q
    · exact .inr ⟨q, PySem.W.cellsFrom_some _ _ _ (.inl q)⟩
  refine codeAny_call_function hr.depth (KX _ _ lk) rfl S.co S.gen rfl (PySem.W.codeRec_of KX hcd) (hb _ _ _ _ (wpAny_newFunctionEnv_cells S.kind hkind fun env he s1 x => ?_))
  subst he
  refine ⟨(e0.mod.nolimit.keeps up).keeps x.toInCall.keep, codeAny_func ?_⟩
  obtain ⟨t, ht, hq⟩ := hbody A outer s H vs Q E (hr.deeper _) hgd hsp
  have I : Inv (cxOf CX P w K mg base N qual scope f cdv A outer s H E) [] (start N vs) H s1 := inv_start S hr.hd e0 (len _ _ _ _ hsp) r x
  refine wpAny_mono (ht.run [] s1 (start N vs) H _ I hq) (fun fl s' hs => ?_) fun _ _ z => z
  have fin : ∀ {σ' : L2.St} {H' : Hp} {v : V} {u : Value}, Inv (cxOf CX P w K mg base N qual scope f cdv A outer s H E) [] σ' H' s' → RelV v u → Q v H' → CE outer P w H s Q u s' :=
    fun {σ' H' v u} J rv q => ⟨v, H', J.os, J.bare, J.base, J.hok, rv, q⟩
  match fl, hs with
  | .ret u, ⟨v, σ', H', J, rv, q⟩ => exact fin J rv q
  | .next, ⟨σ', H', J, q⟩ => exact fin (v := V.non) (u := Value.none) J rfl q
  | .brk, ⟨_, _, _, q⟩ => exact q.elim
  | .cont, ⟨_, _, _, q⟩ => exact q.elim
theorem okG {P : Program} {w : World} {K : PySem.W.Frag} {mg : Str → Option Value} {base : Heap} {CX : CXT} {N ps : List Str} {k : Nat} {sp : Sp} {x qual : Str} {params : Arguments} {body : List Stmt} {scope : Scope} {dvs : List V} {kws : List (Str × V)} {f : Addr} {fd : FuncData}
    (F : FunD K x qual params body scope dvs kws f fd) (S : FnScope N ps scope) (len : ∀ vs H Q E, sp vs H Q E → vs.length = ps.length)
    (hbody : ∀ (cdv : Value) (A : Around) (outer : List Env) (s : Shared) (H : Hp) (vs : List V) (Q : VK) (E : XK), Room k (A.deeper (envOfC qual scope s.heap.objs.size f cdv)) → A.guards = some [] → sp vs H Q E →
      ∃ t, PSs (cxOf CX P w K mg base N qual scope f cdv A outer s H E) body t ∧ t { nx := fun _ H' => Q .non H', rt := Q } (start N vs) H) : FnG P w K mg base CX (k + 1) f fd ps sp := by
  obtain ⟨oc, od, dV, kV, doc, pm, an, cdv, ct, osl, rfl, lk, hcd, _, _⟩ := F.ex
  exact fnG_of lk hcd S len fun A outer s H vs Q E hr hgd hsp => hbody cdv A outer s H vs Q E hr hgd hsp
end DL


set_option Elab.async false
set_option linter.all false
set_option maxRecDepth 100000
set_option maxHeartbeats 4000000
/-! THE DATA LAYER: the law's own call -/
namespace DL
open PySem PySem.Spec PyProof.Rows L2
section
variable {P : Program} {w : World} {K : PySem.W.Frag} {mg mb : Str → Option Value} {CX : CXT} {k : Nat} {fa a : Addr} {fd : FuncData} {x : Str} {sp : Sp} {s1 : Shared} {vs : List Value} {ns : List Int}
abbrev LawEnds (s1 : Shared) (r : Result) (s' : Shared) : Prop := r = .ok (.ret (.bool true)) ∧ OldK s1.heap s'.heap ∧ s'.os = s1.os ∧ AllBare s'.gens
theorem law_core (KX : K.In s1.heap) (hns : s1.heap.Ns mainGlobals mg) (hb : s1.heap.Ns builtinsNs mb) (hbb : ∀ x : Str, x ≠ "__name__" → mb x = bootBuiltins x) (hlim : s1.heap.NoLimit) (hg : s1.gens = #[])
    (ha : s1.heap.get? a = some { cls := .type "list", data := .seq vs.toArray }) (hr : Room k callerA)
    (F : ∀ base : Heap, K.In base → base.Ns mainGlobals mg → FnG P w K mg base CX k fa fd [x] sp) (hbind : ∀ (s : Shared) (u : Value), BindsTo s fd ⟨[u], []⟩ [(x, u)])
    (hCX : ∀ H e s', CX [] H s1 (fun _ _ _ => False) e s' → False) {H : Hp} (hO : Only H) (hok : HOk P w H s1.heap) (hA : ∀ b, H b ≠ none → b = a) (hK : H a ≠ none → K.lookup a = none)
    (hsp : sp [.ref a] H (fun v _ => v = .bl true) fun _ _ _ => False) : codeAny (model P w) callerA (.call (.ref fa) ⟨[.ref a], []⟩) (LawEnds s1) s1 := by
  have isA : ∀ {b : Addr} {u : HO}, H b = some u → b = a := fun {b u} q => hA b (by rw [q]; simp)
  have keepB : ∀ {b : Addr} {o : Obj}, s1.heap.get? b = some o → H b = none → (hidT s1.heap H).get? b = some o := fun z n => hidT_get z n
  have dictN : ∀ {b : Addr} {o : Obj} {es : Array DictEntry} {ep : Nat}, s1.heap.get? b = some o → o.data = .dict es ep → H b = none := by
    intro b o es ep z d
    cases q : H b with
    | none => rfl
    | some u =>
      rw [isA q, ha] at z
      have z := Option.some.inj z
      rw [← z] at d
      cases d
  have nsB : ∀ {b : Addr} {m : Str → Option Value}, s1.heap.Ns b m → (hidT s1.heap H).Ns b m := by
    rintro b m ⟨o, es, ep, z, d, r⟩
    exact ⟨o, es, ep, keepB z (dictN z d), d, r⟩
  have KB : K.In (hidT s1.heap H) := by
    intro b o z
    refine keepB (KX b o z) ?_
    cases q : H b with
    | none => rfl
    | some u =>
      have e := isA q
      subst e
      rw [hK (by rw [q]; simp)] at z
      cases z
  have md : Mod K mg (hidT s1.heap H) := ⟨KB, nsB hns, ⟨mb, nsB hb, hbb⟩, by
    obtain ⟨mc, h1, h2⟩ := hlim
    exact ⟨mc, nsB h1, h2⟩⟩
  have e0 : Env0 P w K mg (hidT s1.heap H) callerA [] s1 H :=
    ⟨rfl, md, fun b o z => of_hidT z, Nat.le_of_eq (hidT_size _ _), trivial, fun b z => absurd (show b ∈ ([] : List Addr) from z) (by simp), hok, .of_eq hg⟩
  have R := (F _ KB (nsB hns)).run callerA [] s1 H ⟨[.ref a], []⟩ [.ref a] [.ref a] _ _ hr rfl e0 (hbind s1 (.ref a)) (.cons rfl .nil) hsp
  refine codeAny_mono R fun res s' q => ?_
  match res, q with
  | .error e, q => exact (hCX H e s' q).elim
  | .ok .next, q => exact q.elim
  | .ok .brk, q => exact q.elim
  | .ok .cont, q => exact q.elim
  | .ok (.ret u), ⟨v, H', os, bare, un, hok', r', q'⟩ =>
    have q' : v = .bl true := q'
    subst q'
    have r' : u = Value.bool true := r'
    subst r'
    refine ⟨rfl, OldK.of_keep fun b o z => ?_, os, bare⟩
    cases q : H b with
    | none => exact un.keep b o z q (fun y => absurd (show b ∈ ([] : List Addr) from y) (by simp)) (by simp)
    | some u =>
      rcases hO b with y | ⟨ob, xs, y⟩
      · rw [q] at y
        cases y
      · obtain ⟨e1, _⟩ := hok b _ y
        obtain ⟨e2, _⟩ := hok' b _ (un.frzs b ob _ y)
        rw [z] at e1
        injection e1 with e1
        rw [e1]
        exact e2
theorem law_callG (KX : K.In s1.heap) (hns : s1.heap.Ns mainGlobals mg) (hb : s1.heap.Ns builtinsNs mb) (hbb : ∀ x : Str, x ≠ "__name__" → mb x = bootBuiltins x) (hlim : s1.heap.NoLimit) (hg : s1.gens = #[])
    (ha : s1.heap.get? a = some { cls := .type "list", data := .seq vs.toArray }) (hi : IntsAre vs ns) (hl : ns.length ≤ sizeLine) (hr : Room k callerA)
    (F : ∀ base : Heap, K.In base → base.Ns mainGlobals mg → FnG P w K mg base CX k fa fd [x] sp) (hbind : ∀ (s : Shared) (u : Value), BindsTo s fd ⟨[u], []⟩ [(x, u)])
    (hsp : ∀ H : Hp, Only H → SqL K H a (ns.map V.int) → sp [.ref a] H (fun v _ => v = .bl true) fun _ _ _ => False)
    (hCX : ∀ H e s', CX [] H s1 (fun _ _ _ => False) e s' → False) : codeAny (model P w) callerA (.call (.ref fa) ⟨[.ref a], []⟩) (LawEnds s1) s1 := by
  have rv := vals_ints hi
  have lenV := hi.length
  cases hk : K.lookup a with
  | some o =>
    have z := KX a o hk
    rw [ha] at z
    cases z
    have hO : Only fun _ => none := fun _ => .inl rfl
    refine law_core KX hns hb hbb hlim hg ha hr F hbind hCX (H := fun _ => none) hO (fun b u z => ?_) (fun b z => absurd rfl z) (fun z => absurd rfl z) (hsp _ hO ?_)
    · have z : (none : Option HO) = some u := z
      cases z
    · exact .inr ⟨_, vs.toArray, _, hk, rfl, rfl, rfl, by rw [List.size_toArray, lenV]; exact hl, by simpa using rv⟩
  | none =>
    have at_a : (fun b : Addr => if b = a then some (HO.frz { cls := .type "list", data := .seq vs.toArray } (.lst (ns.map V.int))) else none) a = some (HO.frz { cls := .type "list", data := .seq vs.toArray } (.lst (ns.map V.int))) := if_pos rfl
    have off : ∀ {b : Addr}, b ≠ a → (fun b : Addr => if b = a then some (HO.frz { cls := .type "list", data := .seq vs.toArray } (.lst (ns.map V.int))) else none) b = none := fun z => if_neg z
    have hO : Only (fun b : Addr => if b = a then some (HO.frz { cls := .type "list", data := .seq vs.toArray } (.lst (ns.map V.int))) else none) := fun b => by
      by_cases z : b = a
      · exact .inr ⟨_, _, by rw [z]; exact at_a⟩
      · exact .inl (off z)
    refine law_core KX hns hb hbb hlim hg ha hr F hbind hCX hO (fun b u z => ?_) (fun b z => ?_) (fun _ => hk) (hsp _ hO (.inl (.inr ⟨_, at_a⟩)))
    · by_cases y : b = a
      · subst y
        have z := at_a.symm.trans z
        injection z with z
        subst z
        exact ⟨ha, by rw [List.length_map]; exact hl, vs, _, rv, ha⟩
      · have z := (off y).symm.trans z
        cases z
    · by_cases y : b = a
      · exact y
      · exact absurd (off y) z
end
theorem walk_ofG {l : PySem.W.OpenLaw} {n k : Nat} {q : Program} {loose : List Str} {XP : (Str → Option Value) → Heap → Prop} {YP : World → Heap → Prop} {d : DefRec} {CX : CXT} {x : Str}
    (hn : l.most = some n) (hn2 : n ≤ sizeLine) (hdf : d.params.defaults = []) (hr : Room k callerA)
    (F : ∀ (w : World) (mg : Str → Option Value) (fa : Addr) (h : Heap), YP w h → h.Ns mainGlobals mg → mg d.name = some (.ref fa) →
      ∃ (K : PySem.W.Frag) (fd : FuncData) (sp : Sp), K.In h ∧ (∀ (s : Shared) (u : Value), BindsTo s fd ⟨[u], []⟩ [(x, u)]) ∧
        (∀ (H : Hp) (a : Addr) (ns : List Int), ns.length ≤ n → Only H → SqL K H a (ns.map V.int) → sp [.ref a] H (fun v _ => v = .bl true) fun _ _ _ => False) ∧
        ∀ base : Heap, K.In base → base.Ns mainGlobals mg → FnG l.prog w K mg base CX k fa fd [x] sp)
    (hCX : ∀ (H : Hp) (s : Shared) (e : Value) (s' : Shared), CX [] H s (fun _ _ _ => False) e s' → False) :
    PySem.W.WalkO q loose XP YP l.row.toRowW d [] (fun f vs => PySem.call f vs) :=
  Att.attach_call hn hdf fun w s0 s1 mg mb fa o pm cd doc a vs ns G Y ho hd hcd hmg hobj hints hlen hg => by
    obtain ⟨K, fd, sp, KX, hb, hsp, hF⟩ := F w mg fa _ Y G.T.g hmg
    exact law_callG KX G.T.g G.T.b G.T.builtins G.T.nolimit hg hobj hints (Nat.le_trans hlen hn2) hr hF hb (fun H hO hS => hsp H a ns hlen hO hS) fun H e s' => hCX H s1 e s'
end DL


set_option Elab.async false
set_option linter.all false
set_option maxRecDepth 100000
set_option maxHeartbeats 2000000
/-! THE DATA LAYER, part 9: a reader of the program's own text, sound by the rules -/
namespace DL
open PySem PySem.Spec PyProof.Rows L2

/-- where a piece of text stands: its scope, the names whose cells are its own -/
structure Kx where
  sc : Scope
  fn : Str → Bool
structure Gam where
  fn : Str → Option (Nat × Den)
  cst : Str → Option D
  free : Str → Bool
  more : Cx → Prop := fun _ => True
structure Inf where
  N : List Str
  g : Gam
structure Sem where
  E : Kx → Expr → FE
  T : Kx → Expr → FT
  I : Kx → Expr → Expr → FI
  S : Kx → Stmt → FS
def noE : FE := fun _ => none
def noT : FT := fun _ => none
def noI : FI := fun _ => none
def noA : FA := fun _ => none
def Sem.bot : Sem := ⟨fun _ _ => noE, fun _ _ => noT, fun _ _ _ => noI, fun _ _ => noS⟩

structure XOk (K : PySem.W.Frag) (cl : Str → Option Addr) (Δ : Inf) (k : Nat) (κ : Kx) (X : Cx) : Prop where
  kf : X.K = K
  n : X.N = Δ.N
  nd : Δ.N.Nodup
  calm : X.calm = true
  xe : X.xe = fun _ _ => False
  room : Room k X.A
  gd : X.A.guards = some []
  more : Δ.g.more X
  mblk : ∀ X s H scope env fp, Δ.g.more X → Δ.g.more (X.blk s H scope env fp)
  sc : X.env.scope = κ.sc
  kind : κ.sc.kind = .function
  fns : X.fn = κ.fn
  fn : ∀ x n den, Δ.g.fn x = some (n, den) → ∃ f fd ps, X.mg x = some (.ref f) ∧ PySem.W.keepIn K (.ref f) = true ∧ Binds K fd ps [] ∧ ps.length = n ∧ FnG X.prog X.w K X.mg X.base CX0 k f fd ps (SpD K cl n den)
  cst : ∀ x d, Δ.g.cst x = some d → ∃ u v, X.mg x = some u ∧ RelV v u ∧ ∀ C H, C.K = K → Rep C H v d
  free : ∀ x, Δ.g.free x = true → X.mg x = none
structure SemOk (K : PySem.W.Frag) (cl : Str → Option Addr) (Δ : Inf) (k : Nat) (S : Sem) : Prop where
  e : ∀ κ X, XOk K cl Δ k κ X → ∀ e, PE X e (tE K cl (S.E κ e))
  t : ∀ κ X, XOk K cl Δ k κ X → ∀ e, PT X e (tT K cl (S.T κ e))
  i : ∀ κ X, XOk K cl Δ k κ X → ∀ tg e, PI X tg e (tI K cl (S.I κ tg e))
  s : ∀ κ X, XOk K cl Δ k κ X → ∀ st, PS X st (tS K cl (S.S κ st))
section
variable {K : PySem.W.Frag} {cl : Str → Option Addr} {X : Cx}
theorem pe_no {e : Expr} : PE X e (tE K cl noE) := ⟨fun _ _ _ _ _ _ h => by obtain ⟨_, _, _, _, _, _, _, e, _⟩ := h; cases e⟩
theorem pt_no {e : Expr} : PT X e (tT K cl noT) := ⟨fun _ _ _ _ _ _ h => by obtain ⟨_, _, _, _, _, _, _, e, _⟩ := h; cases e⟩
theorem pi_no {tg e : Expr} : PI X tg e (tI K cl noI) := ⟨fun _ _ _ _ _ _ h => by obtain ⟨_, _, _, _, _, _, _, e, _⟩ := h; cases e⟩
theorem ps_no {st : Stmt} : PS X st (tS K cl noS) := ⟨fun _ _ _ _ _ _ h => by obtain ⟨_, _, _, _, _, _, _, e, _⟩ := h; cases e⟩
theorem pss_no {st : List Stmt} : PSs X st (tS K cl noS) := ⟨fun _ _ _ _ _ _ h => by obtain ⟨_, _, _, _, _, _, _, e, _⟩ := h; cases e⟩
theorem pa_no {es : List Expr} : PA X es (tA K cl noA) := ⟨fun _ _ _ _ _ _ _ h => by obtain ⟨_, _, _, _, _, _, _, e, _⟩ := h; cases e⟩
end
theorem bot_ok {K : PySem.W.Frag} {cl : Str → Option Addr} {Δ : Inf} {k : Nat} : SemOk K cl Δ k Sem.bot := ⟨fun _ _ _ _ => pe_no, fun _ _ _ _ => pt_no, fun _ _ _ _ _ => pi_no, fun _ _ _ _ => ps_no⟩

/-! ### the words of the reader -/
def isStar : Expr → Bool
  | .Starred _ _ => true
  | _ => false
def isComp : Expr → Bool
  | .ListComp .. => true
  | .SetComp .. => true
  | .DictComp .. => true
  | _ => false
def isSetD : Expr → Bool
  | .Set .. => true
  | _ => false
def isSlice : Expr → Bool
  | .Slice .. => true
  | _ => false
def isCall : Expr → Bool
  | .Call .. => true
  | _ => false
theorem star_cons {e : Expr} {es : List Expr} {env : Env} (h : isStar e = false) : starEach (e :: es) env = (false, eval e env) :: starEach es env := by
  cases e <;> (first | rfl | cases h)
theorem star_any {pos : Pos} {env : Env} : ∀ {es : List Expr}, (es.all fun e => !isStar e) = true → (backTo pos (starEach es env)).any (·.1) = false
  | [], _ => rfl
  | e :: es, h => by
    rw [List.all_cons, Bool.and_eq_true] at h
    have h1 : isStar e = false := by simpa using h.1
    rw [star_cons h1]
    show ((false || (backTo pos (starEach es env)).any (·.1))) = false
    rw [star_any h.2]
    rfl
theorem swaps_no {e : Expr} {t : Option Expr} {l : Nat} {env : Env} (h : isComp e = false) : swapsWith e t l env = pure false := by
  cases e <;> (first | rfl | cases h)
theorem fold_no {e : Expr} {env : Env} (h : isSetD e = false) (x : Value) : foldedSetIterable e env x = pure x := by
  cases e <;> (first | rfl | cases h)
theorem marks_no {op : CmpOp} {e : Expr} (h : isSetD e = false) : behindInMarks op e = false := by
  cases e <;> (first | rfl | cases h)
theorem sub_no {e : Expr} (h : isSlice e = false) (o i : Value) : subscripted e false o i = operate [o, i] (getItem o i) := by
  cases e <;> (first | rfl | cases h)
theorem attr_no {e : Expr} {a : Str} {env : Env} (h : isCall e = false) : attributeBase e a env (eval e env) = eval e env := by
  cases e <;> (first | rfl | cases h)
def visB (sc : Scope) (x : Str) : Bool := match sc.names.lookup x with
  | some .local => true
  | some .cell => true
  | some .free => true
  | _ => false
def glB (sc : Scope) (x : Str) : Bool := match sc.names.lookup x with
  | some .globalImplicit => true
  | _ => false
theorem vis_of {sc : Scope} {x : Str} (h : visB sc x = true) : Vis sc x := by
  unfold visB at h
  unfold Vis
  split at h
  · rename_i e; exact .inl e
  · rename_i e; exact .inr (.inl e)
  · rename_i e; exact .inr (.inr e)
  · cases h
theorem gl_of {sc : Scope} {x : Str} (h : glB sc x = true) : sc.names.lookup x = some .globalImplicit := by
  unfold glB at h
  split at h
  · assumption
  · cases h
def ixOf (N : List Str) (x : Str) : Option Nat := N.findIdx? (· == x)
theorem ix_ok : ∀ {N : List Str} {x : Str} {i : Nat}, ixOf N x = some i → N[i]? = some x := by
  intro N x i h
  unfold ixOf at h
  obtain ⟨h1, h2, _⟩ := List.findIdx?_eq_some_iff_getElem.mp h
  rw [List.getElem?_eq_getElem h1]
  exact congrArg some (eq_of_beq h2)
def dbgOk (x : Str) : Bool := !(x == ("__debug__" : Str)) && !(x == ("__classdict__" : Str)) && !(x == ("__name__" : Str))
theorem dbg_ok {x : Str} (h : dbgOk x = true) : (x == ("__debug__" : Str)) = false ∧ (x == ("__classdict__" : Str)) = false ∧ x ≠ "__name__" := by
  unfold dbgOk at h
  rw [Bool.and_eq_true, Bool.and_eq_true] at h
  refine ⟨by simpa using h.1.1, by simpa using h.1.2, ?_⟩
  intro z
  rw [z] at h
  exact absurd h.2 (by decide)

/-! ### expressions -/
section
variable (Δ : Inf) (S : Sem)
def nameF (κ : Kx) (x : Str) : FE :=
  if dbgOk x then (if visB κ.sc x then (match ixOf Δ.N x with
    | some i => varE i
    | none => noE) else if glB κ.sc x then (match Δ.g.cst x with
    | some d => cE d
    | none => noE) else noE) else noE
def constF : Const → FE
  | .none => cE .non
  | .bool b => cE (.bl b)
  | .int i => cE (.int i)
  | .str x => cE (.str x.cps.toList)
  | _ => noE
def argA (κ : Kx) : List Expr → FA
  | [] => nilA
  | e :: r => if isStar e then noA else consA (S.E κ e) (argA κ r)
def binP : Operator → Option (List D → Option BV)
  | .Add => some pAdd
  | .Sub => some pSub
  | .Mult => some pMul
  | .FloorDiv => some pFdiv
  | .Mod => some pMod
  | .Pow => some pPow
  | _ => none
def rBin (K : PySem.W.Frag) : Operator → R2
  | .Add => rAddA K
  | .Sub => rI0 fun i j => .int (i - j)
  | .Mult => rMulA
  | .FloorDiv => rI CDiv fun i j => .int (i / j)
  | .Mod => rI (fun _ j => 0 < j) fun i j => .int (i % j)
  | .Pow => rI CPow fun i j => .int (i ^ j.toNat)
  | _ => fun _ _ _ _ => False
def binF (κ : Kx) (a : Expr) (op : Operator) (b : Expr) : FE := match binP op with
  | some p => primE p (consA (S.E κ a) (consA (S.E κ b) nilA))
  | none => noE
def cmpP : CmpOp → List D → Option BV
  | .Eq => pEq
  | .NotEq => pNe
  | .Lt => pLt
  | .LtE => pCmpI fun i j => decide (i ≤ j)
  | .Gt => pCmpI fun i j => decide (j < i)
  | .GtE => pCmpI fun i j => decide (j ≤ i)
  | .In => pIn
  | .NotIn => pNotIn
  | .Is => pIs
  | .IsNot => pIsNot
def rCmp (K : PySem.W.Frag) : CmpOp → R2
  | .Eq => rEqD K
  | .NotEq => rNeD K
  | .Lt => rLtA
  | .LtE => rI0 fun i j => .bl (decide (i ≤ j))
  | .Gt => rI0 fun i j => .bl (decide (j < i))
  | .GtE => rI0 fun i j => .bl (decide (j ≤ i))
  | .In => rInA K false
  | .NotIn => rInA K true
  | .Is => rIsA false
  | .IsNot => rIsA true
/-- a op b op' c -/
def chainE (p p' : List D → Option BV) (f g h : FE) : FE := fun s => match f s with
  | some (b1, s1) => match g s1 with
    | some (b2, s2) => match conts s2 [settle b1, settle b2] with
      | some ds => match p ds with
        | some (.st (.bl false)) => some (.st (.bl false), s2)
        | some (.st (.bl true)) => match h s2 with
          | some (b3, s3) => match conts s3 [settle b2, settle b3] with
            | some ds' => match p' ds' with
              | some (.st d) => some (.st d, s3)
              | _ => none
            | none => none
          | none => none
        | _ => none
      | none => none
    | none => none
  | none => none
def cmpF (κ : Kx) (a : Expr) (ops : List CmpOp) (bs : List Expr) : FE := match ops, bs with
  | [op], [b] => if isSetD b then noE else primE (cmpP op) (consA (S.E κ a) (consA (S.E κ b) nilA))
  | [op, op'], [b, c] => if isSetD c then noE else chainE (cmpP op) (cmpP op') (S.E κ a) (S.E κ b) (S.E κ c)
  | _, _ => noE
def andEs : List FE → FE
  | [] => noE
  | [f] => f
  | f :: r => andE f (andEs r)
def orEs : List FE → FE
  | [] => noE
  | [f] => f
  | f :: r => orE f (orEs r)
def andTs : List FT → FT
  | [] => noT
  | [f] => f
  | f :: r => andT f (andTs r)
def orTs : List FT → FT
  | [] => noT
  | [f] => f
  | f :: r => orT f (orTs r)
/-- a built-in function by its name: its data's function -/
def bltP (x : Str) : Option (List D → Option BV) :=
  if x == ("len" : Str) then some pLen
  else if x == ("abs" : Str) then some pAbs
  else if x == ("max" : Str) then some pMax2
  else if x == ("min" : Str) then some pMin2
  else if x == ("all" : Str) then some pAll
  else if x == ("any" : Str) then some pAny
  else none
def tyP (x : Str) : Option (List D → Option BV) :=
  if x == ("list" : Str) then some pList
  else if x == ("tuple" : Str) then some pTuple
  else if x == ("int" : Str) then some pInt
  else none
def callF (κ : Kx) (x : Str) (es : List Expr) : FE :=
  if dbgOk x && glB κ.sc x && (es.all fun e => !isStar e) then (match Δ.g.fn x with
    | some (n, den) => callE n den (argA S κ es)
    | none => if Δ.g.free x && !es.isEmpty then (match bltP x with
      | some p => primE p (argA S κ es)
      | none => match tyP x with
        | some p => primE p (argA S κ es)
        | none => noE) else noE) else noE
/-- methods of built-in types -/
def methF (κ : Kx) (o : Expr) (m : Str) (es : List Expr) (same : Bool) : FE :=
  if !isCall o && same && (es.all fun e => !isStar e) && decide (es.length < 20) && !es.isEmpty then (
    if m == ("append" : Str) then ownM "list" mAppend (S.E κ o) (argA S κ es)
    else if m == ("extend" : Str) then ownM "list" mExtend (S.E κ o) (argA S κ es)
    else if m == ("pop" : Str) then ownM "list" mPopAt (S.E κ o) (argA S κ es)
    else noE) else noE
def partO (κ : Kx) : Option Expr → FO
  | none => noO
  | some e => someO (S.E κ e)
def subF (κ : Kx) (a b : Expr) : FE := match b with
  | .Slice lo hi none _ => slE (S.E κ a) (partO S κ lo) (partO S κ hi)
  | .Slice _ _ (some _) _ => noE
  | b => primE pIx (consA (S.E κ a) (consA (S.E κ b) nilA))
/-! targets -/
def locB (κ : Kx) (x : Str) : Bool := match κ.sc.names.lookup x with
  | some .local => true
  | some .cell => κ.fn x
  | _ => false
def tgN (κ : Kx) : Expr → Option Nat
  | .Name x _ => if locB κ x then ixOf Δ.N x else none
  | _ => none
def tgNs (κ : Kx) : List Expr → Option (List Nat)
  | [] => some []
  | e :: r => match tgN Δ κ e with
    | some i => match tgNs κ r with
      | some is => some (i :: is)
      | none => none
    | none => none
def namesG : List Nat → FGs
  | [] => nilG
  | i :: r => consG (nameG i) (namesG r)
def tgF (κ : Kx) : Expr → Option (List Nat × FG)
  | .Name x p => match tgN Δ κ (.Name x p) with
    | some i => some ([i], nameG i)
    | none => none
  | .Tuple es _ _ => match tgNs Δ κ es with
    | some is => some (is, tupG is.length (namesG is))
    | none => none
  | _ => none
def ownOf (scope : Scope) : List (Str × Nat) := scope.names.filterMap fun (n, k) => match k with
  | .local => (ixOf Δ.N n).map fun i => (n, i)
  | .cell => (ixOf Δ.N n).map fun i => (n, i)
  | _ => none
def blkK (κ : Kx) (scope : Scope) : Kx := ⟨relS scope κ.sc, fun x => scope.names.lookup x == some .cell⟩
def testsF (κ : Kx) : List Expr → FT
  | [] => yesT
  | [c] => S.T κ c
  | _ => noT
def compF (κ : Kx) (elt : Expr) (gs : List Comprehension) (scope : Scope) : FE := match gs with
  | [⟨tg, iter, ifs, 0⟩] => if blkC Δ.N κ.sc scope (ownOf Δ scope) && !isSetD iter then (match tgF Δ (blkK κ scope) tg with
    | some (ix, g) => if ix.all fun i => decide (i ∈ (ownOf Δ scope).map (·.2)) then
        lcE ((ownOf Δ scope).map (·.2)) (S.I κ tg iter) g (testsF S (blkK κ scope) ifs) (S.E (blkK κ scope) elt) else noE
    | none => noE) else noE
  | _ => noE
def dE (κ : Kx) : Expr → FE
  | .Name x _ => nameF Δ κ x
  | .Constant c _ _ => constF c
  | .BinOp a op b _ => binF S κ a op b
  | .UnaryOp .USub a _ => primE pNeg (consA (S.E κ a) nilA)
  | .UnaryOp .Not a _ => notE (S.E κ a)
  | .BoolOp .And es _ => andEs (es.map (S.E κ))
  | .BoolOp .Or es _ => orEs (es.map (S.E κ))
  | .Compare a ops bs _ => cmpF S κ a ops bs
  | .IfExp c a b _ => ifE (S.T κ c) (S.E κ a) (S.E κ b)
  | .List es _ => dispE mkLst (argA S κ es)
  | .Tuple es _ _ => dispE mkTup (argA S κ es)
  | .Subscript a b _ => subF S κ a b
  | .Call (.Name x _) es [] _ => callF Δ S κ x es
  | .Call (.Attribute o m apos) es [] pos => methF S κ o m es (apos.endLine == pos.line)
  | .ListComp elt gs scope _ => compF Δ S κ elt gs scope
  | _ => noE
/-- words of one's own -/
structure Ext where
  E : Sem → Kx → Expr → Option FE := fun _ _ _ => none
  I : Sem → Kx → Expr → Expr → Option FI := fun _ _ _ _ => none
  S : Sem → Kx → Stmt → Option FS := fun _ _ _ => none
def xE (ξ : Ext) (κ : Kx) (e : Expr) : FE := match ξ.E S κ e with
  | some f => f
  | none => dE Δ S κ e
def dT (ξ : Ext) (κ : Kx) : Expr → FT
  | .UnaryOp .Not x _ => notT (S.T κ x)
  | .UnaryOp op x p => truT (xE Δ S ξ κ (.UnaryOp op x p))
  | .BoolOp .And es _ => andTs (es.map (S.T κ))
  | .BoolOp .Or es _ => orTs (es.map (S.T κ))
  | .IfExp _ _ _ _ => noT
  | .Compare a ops bs p => blT (dE Δ S κ (.Compare a ops bs p))
  | e => truT (xE Δ S ξ κ e)
def rangeF (κ : Kx) (x : Str) (es : List Expr) : Option FI :=
  if x == ("range" : Str) && glB κ.sc x && Δ.g.free x then (match es with
    | [a] => if isStar a then none else some (range1I (argA S κ [a]))
    | [a, b] => if isStar a || isStar b then none else some (range2I (argA S κ [a, b]))
    | _ => none) else none
def xI (ξ : Ext) (κ : Kx) (tg e : Expr) (f : FI) : FI := match ξ.I S κ tg e with
  | some f' => f'
  | none => f
def dI (κ : Kx) (tg : Expr) (e : Expr) : FI := match e with
  | .Call (.Name x _) es [] _ => match rangeF Δ S κ x es with
    | some f => f
    | none => seqI (S.E κ e)
  | e => seqI (S.E κ e)
end
structure ExtOk (K : PySem.W.Frag) (cl : Str → Option Addr) (Δ : Inf) (k : Nat) (ξ : Ext) : Prop where
  e : ∀ S, SemOk K cl Δ k S → ∀ κ X, XOk K cl Δ k κ X → ∀ e f, ξ.E S κ e = some f → PE X e (tE K cl f)
  i : ∀ S, SemOk K cl Δ k S → ∀ κ X, XOk K cl Δ k κ X → ∀ tg e f, ξ.I S κ tg e = some f → PI X tg e (tI K cl f)
  s : ∀ S, SemOk K cl Δ k S → ∀ κ X, XOk K cl Δ k κ X → ∀ st f, ξ.S S κ st = some f → PS X st (tS K cl f)
theorem ext_none {K : PySem.W.Frag} {cl : Str → Option Addr} {Δ : Inf} {k : Nat} : ExtOk K cl Δ k {} := ⟨fun _ _ _ _ _ _ _ h => (nomatch h), fun _ _ _ _ _ _ _ _ h => (nomatch h), fun _ _ _ _ _ _ _ h => (nomatch h)⟩
/-- the first one that has a word -/
def Ext.or (a b : Ext) : Ext where
  E := fun S κ e => match a.E S κ e with
    | some f => some f
    | none => b.E S κ e
  I := fun S κ tg e => match a.I S κ tg e with
    | some f => some f
    | none => b.I S κ tg e
  S := fun S κ st => match a.S S κ st with
    | some f => some f
    | none => b.S S κ st
theorem ExtOk.or {K : PySem.W.Frag} {cl : Str → Option Addr} {Δ : Inf} {k : Nat} {a b : Ext} (ha : ExtOk K cl Δ k a) (hb : ExtOk K cl Δ k b) : ExtOk K cl Δ k (a.or b) where
  e := fun S hS κ X o e f h => by
    have h : (match a.E S κ e with | some f => some f | none => b.E S κ e) = some f := h
    split at h
    · rename_i q
      exact ha.e S hS κ X o e f (q.trans h)
    · exact hb.e S hS κ X o e f h
  i := fun S hS κ X o tg e f h => by
    have h : (match a.I S κ tg e with | some f => some f | none => b.I S κ tg e) = some f := h
    split at h
    · rename_i q
      exact ha.i S hS κ X o tg e f (q.trans h)
    · exact hb.i S hS κ X o tg e f h
  s := fun S hS κ X o e f h => by
    have h : (match a.S S κ e with | some f => some f | none => b.S S κ e) = some f := h
    split at h
    · rename_i q
      exact ha.s S hS κ X o e f (q.trans h)
    · exact hb.s S hS κ X o e f h
end DL


set_option Elab.async false
set_option linter.all false
set_option maxRecDepth 100000
set_option maxHeartbeats 2000000
/-! THE DATA LAYER, part 10: the reader is sound: expressions, tests, what is walked -/
namespace DL
open PySem PySem.Spec PyProof.Rows L2
section
variable {K : PySem.W.Frag} {cl : Str → Option Addr} {Δ : Inf} {k : Nat} {S : Sem} {κ : Kx} {X : Cx}
theorem XOk.gl (o : XOk K cl Δ k κ X) {x : Str} (h : glB κ.sc x = true) : Gl X x := by
  show X.env.scope.names.lookup x = some .globalImplicit
  rw [o.sc]
  exact gl_of h
theorem XOk.passes (o : XOk K cl Δ k κ X) : PassesOwn (model X.prog X.w) X.A X.env X.xe := by
  rw [o.xe]
  exact PassesOwn.never
theorem ok_name (o : XOk K cl Δ k κ X) {x : Str} {pos : Pos} : PE X (.Name x pos) (tE K cl (nameF Δ κ x)) := by
  unfold nameF
  split
  · rename_i hd
    obtain ⟨d1, d2, d3⟩ := dbg_ok hd
    split
    · rename_i hv
      split
      · rename_i i q
        have hN : X.N[i]? = some x := by
          rw [o.n]
          exact ix_ok q
        have hV : Vis X.env.scope x := by
          rw [o.sc]
          exact vis_of hv
        exact PE.imp (pe_var hN hV d1 d2) fun σ H Q h => se_var i σ H Q h
      · exact pe_no
    · split
      · rename_i hg
        split
        · rename_i d q
          obtain ⟨u, v, h1, h2, h3⟩ := o.cst x d q
          refine PE.imp (pe_glob (o.gl hg) h1 h2 d1) fun σ H Q h => ?_
          obtain ⟨Φ, Hs, s, b, s', T, r, e, kk⟩ := h
          injection e with e
          injection e with e1 e2
          subst e1
          subst e2
          exact kk _ H Hs (Ex.refl _) r (h3 Φ.C Hs T.k)
        · exact pe_no
      · exact pe_no
  · exact pe_no
theorem ok_const {c : Const} {j : Nat} {pos : Pos} : PE X (.Constant c j pos) (tE K cl (constF c)) := by
  cases c with
  | none => exact PE.imp pe_non fun σ H Q h => se_c (d := .non) rfl σ H Q h
  | bool b => exact PE.imp pe_bl fun σ H Q h => se_c (d := .bl b) rfl σ H Q h
  | int b => exact PE.imp pe_int fun σ H Q h => se_c (d := .int b) rfl σ H Q h
  | str b => exact PE.imp pe_str fun σ H Q h => se_c (d := .str b.cps.toList) (v := .str b) rfl σ H Q h
  | _ => exact pe_no
theorem ok_args (hS : SemOk K cl Δ k S) (o : XOk K cl Δ k κ X) : ∀ es : List Expr, PA X es (tA K cl (argA S κ es))
  | [] => PA.imp pa_nil fun σ H Q h => sa_nil σ H Q h
  | e :: es => by
    unfold argA
    split
    · exact pa_no
    · rename_i hs
      exact PA.imp (pa_cons (hS.e κ X o e) (ok_args hS o es) (star_cons (by simpa using hs))) fun σ H Q h => sa_cons σ H Q h
theorem ok_bin (hS : SemOk K cl Δ k S) (o : XOk K cl Δ k κ X) {a b : Expr} {op : Operator} {pos : Pos} : PE X (.BinOp a op b pos) (tE K cl (binF S κ a op b)) := by
  have ha := hS.e κ X o a
  have hb := hS.e κ X o b
  cases op with
  | Add =>
    have z := op_addA (X := X)
    rw [o.kf] at z
    exact PE.imp (pe_op z ha hb) fun σ H Q h => se_op p_add σ H Q h
  | Sub => exact PE.imp (pe_op op_sub ha hb) fun σ H Q h => se_op p_sub σ H Q h
  | Mult => exact PE.imp (pe_op op_mulA ha hb) fun σ H Q h => se_op p_mul σ H Q h
  | FloorDiv => exact PE.imp (pe_op op_fdiv ha hb) fun σ H Q h => se_op p_fdiv σ H Q h
  | Mod => exact PE.imp (pe_op op_mod ha hb) fun σ H Q h => se_op p_mod σ H Q h
  | Pow => exact PE.imp (pe_op op_pow ha hb) fun σ H Q h => se_op p_pow σ H Q h
  | _ => exact pe_no
theorem op_cmp (o : XOk K cl Δ k κ X) : ∀ op : CmpOp, OpR X (compareOp op) (rCmp K op) := by
  have hu := o.room.units
  intro op
  have kf := o.kf
  cases op with
  | Eq => have z := op_eqD (X := X) hu; rw [kf] at z; exact z
  | NotEq => have z := op_neD (X := X) hu; rw [kf] at z; exact z
  | Lt => exact op_ltA
  | LtE => exact op_le
  | Gt => exact op_gt
  | GtE => exact op_ge
  | In => have z := op_inA (X := X); rw [kf] at z; exact z
  | NotIn => have z := op_notInA (X := X); rw [kf] at z; exact z
  | Is => exact op_isA
  | IsNot => exact op_isNotA
theorem p_cmp : ∀ op : CmpOp, POk K cl (r2L (rCmp K op)) (cmpP op) := by
  intro op
  cases op with
  | Eq => exact p_eq
  | NotEq => exact p_ne
  | Lt => exact p_lt
  | LtE => exact p_cmpI _
  | Gt => exact p_cmpI _
  | GtE => exact p_cmpI _
  | In => exact p_in
  | NotIn => exact p_notIn
  | Is => exact p_is
  | IsNot => exact p_isNot
theorem last2 {op op' : CmpOp} {b c : Expr} (h : isSetD c = false) : lastMarks [op, op'] [b, c] = false := marks_no h
theorem se_chain {p p' : List D → Option BV} {r r' : R2} (hp : POk K cl (r2L r) p) (hp' : POk K cl (r2L r') p') {f g h : FE} (σ : L2.St) (H : Hp) (Q : VK) (hh : tE K cl (chainE p p' f g h) σ H Q) :
    tChain r r' (tE K cl f) (tE K cl g) (tE K cl h) σ H Q := by
  obtain ⟨Φ, Hs, s, b, s', T, rr, e, kk⟩ := hh
  unfold chainE at e
  cases q1 : f s with
  | none => rw [q1] at e; cases e
  | some y =>
    obtain ⟨b1, s1⟩ := y
    rw [q1] at e
    simp only at e
    cases q2 : g s1 with
    | none => rw [q2] at e; cases e
    | some y =>
      obtain ⟨b2, s2⟩ := y
      rw [q2] at e
      simp only at e
      cases q3 : conts s2 [settle b1, settle b2] with
      | none => rw [q3] at e; cases e
      | some ds =>
        rw [q3] at e
        simp only at e
        refine ⟨Φ, Hs, s, b1, s1, T, rr, q1, fun v1 H1 Hs1 x1 r1 h1 => ?_⟩
        obtain ⟨Hs1', x1', r1', h1'⟩ := settled r1 h1
        refine ⟨Φ, Hs1', s1, b2, s2, T, r1', q2, fun v2 H2 Hs2 x2 r2 h2 => ?_⟩
        obtain ⟨Hs2', x2', r2', h2'⟩ := settled r2 h2
        have ho := opds_of r2' (RBs.cons1 (h1'.mono (x2.trans x2')) h2') q3
        have x02 : Ex Hs Hs2' := x1.trans (x1'.trans (x2.trans x2'))
        split at e
        · rename_i q4
          injection e with e
          injection e with e1 e2
          subst e1
          subst e2
          obtain ⟨xa, ya, hv, hr⟩ := hp Φ Hs2' s2 σ H2 [v1, v2] ds _ T r2' ho q4 (fun z H3 => ∃ k, z = .bl k ∧ (if k = true then tE K cl h σ H3 fun w' H4 => r' v2 w' H4 Q else Q (.bl false) H3)) (fun v H3 Hs3 x3 r3 h3 => by
            have h3 : Rep Φ.C Hs3 v (.bl false) := h3
            cases h3
            refine ⟨false, rfl, ?_⟩
            refine iteF ?_
            exact kk _ H3 Hs3 (x02.trans x3) r3 (Rep.bl false))
          injection hv with hv1 hv2
          injection hv2 with hv2 _
          subst hv1
          subst hv2
          exact hr
        · rename_i q4
          cases q5 : h s2 with
          | none => rw [q5] at e; cases e
          | some y =>
            obtain ⟨b3, s3⟩ := y
            rw [q5] at e
            simp only at e
            cases q6 : conts s3 [settle b2, settle b3] with
            | none => rw [q6] at e; cases e
            | some ds' =>
              rw [q6] at e
              simp only at e
              split at e
              · rename_i d q7
                injection e with e
                injection e with e1 e2
                subst e1
                subst e2
                obtain ⟨xa, ya, hv, hr⟩ := hp Φ Hs2' s2 σ H2 [v1, v2] ds _ T r2' ho q4 (fun z H3 => ∃ k, z = .bl k ∧ (if k = true then tE K cl h σ H3 fun w' H4 => r' v2 w' H4 Q else Q (.bl false) H3)) (fun v H3 Hs3 x3 r3 h3 => by
                  have h3 : Rep Φ.C Hs3 v (.bl true) := h3
                  cases h3
                  refine ⟨true, rfl, ?_⟩
                  refine iteT ?_
                  refine ⟨Φ, Hs3, s2, b3, s3, T, r3, q5, fun v4 H4 Hs4 x4 r4 h4 => ?_⟩
                  obtain ⟨Hs4', x4', r4', h4'⟩ := settled r4 h4
                  have ho2 := opds_of r4' (RBs.cons1 (h2'.mono (x3.trans (x4.trans x4'))) h4') q6
                  obtain ⟨xb, yb, hw, hr2⟩ := hp' Φ Hs4' s3 σ H4 [v2, v4] ds' _ T r4' ho2 q7 Q (fun v H5 Hs5 x5 r5 h5 => kk v H5 Hs5 (x02.trans (x3.trans (x4.trans (x4'.trans x5)))) r5 h5)
                  injection hw with hw1 hw2
                  injection hw2 with hw2 _
                  subst hw1
                  subst hw2
                  exact hr2)
                injection hv with hv1 hv2
                injection hv2 with hv2 _
                subst hv1
                subst hv2
                exact hr
              · cases e
        · cases e
theorem ok_cmp (hS : SemOk K cl Δ k S) (o : XOk K cl Δ k κ X) {a : Expr} {ops : List CmpOp} {bs : List Expr} {pos : Pos} : PE X (.Compare a ops bs pos) (tE K cl (cmpF S κ a ops bs)) := by
  unfold cmpF
  split
  · rename_i op b
    split
    · exact pe_no
    · rename_i hs
      exact PE.imp (pe_cmpR (op_cmp o op) (hS.e κ X o a) (hS.e κ X o b) (marks_no (by simpa using hs))) fun σ H Q h => se_op (p_cmp op) σ H Q h
  · rename_i op op' b c
    split
    · exact pe_no
    · rename_i hs
      exact PE.imp (pe_chain (op_cmp o op) (op_cmp o op') (hS.e κ X o a) (hS.e κ X o b) (hS.e κ X o c) (last2 (by simpa using hs))) fun σ H Q h => se_chain (p_cmp op) (p_cmp op') σ H Q h
  · exact pe_no
theorem pt_cmpF (hS : SemOk K cl Δ k S) (o : XOk K cl Δ k κ X) {a : Expr} {ops : List CmpOp} {bs : List Expr} {pos : Pos} : PT X (.Compare a ops bs pos) (tT K cl (blT (cmpF S κ a ops bs))) := by
  unfold cmpF
  split
  · rename_i op b
    split
    · refine ⟨fun _ _ _ _ _ _ h => ?_⟩
      obtain ⟨_, _, _, _, _, _, _, e, _⟩ := h
      cases e
    · rename_i hs
      refine PT.imp (pt_cmpR (op_cmp o op) (hS.e κ X o a) (hS.e κ X o b) (marks_no (by simpa using hs))) fun σ H Q h => ?_
      exact se_op (p_cmp op) σ H _ (st_bl σ H Q h)
  · rename_i op op' b c
    split
    · refine ⟨fun _ _ _ _ _ _ h => ?_⟩
      obtain ⟨_, _, _, _, _, _, _, e, _⟩ := h
      cases e
    · rename_i hs
      refine PT.imp (pt_chain (op_cmp o op) (op_cmp o op') (hS.e κ X o a) (hS.e κ X o b) (hS.e κ X o c) (last2 (by simpa using hs))) fun σ H Q h => ?_
      exact se_chain (p_cmp op) (p_cmp op') σ H _ (st_bl σ H Q h)
  · refine ⟨fun _ _ _ _ _ _ h => ?_⟩
    obtain ⟨_, _, _, _, _, _, _, e, _⟩ := h
    cases e
theorem ok_andE (hS : SemOk K cl Δ k S) (o : XOk K cl Δ k κ X) {pos : Pos} : ∀ es : List Expr, PE X (.BoolOp .And es pos) (tE K cl (andEs (es.map (S.E κ))))
  | [] => pe_no
  | [e] => pe_one (hS.e κ X o e)
  | e :: e2 :: es => PE.imp (pe_and (hS.e κ X o e) (ok_andE hS o (e2 :: es))) fun σ H Q h => se_and σ H Q h
theorem ok_orE (hS : SemOk K cl Δ k S) (o : XOk K cl Δ k κ X) {pos : Pos} : ∀ es : List Expr, PE X (.BoolOp .Or es pos) (tE K cl (orEs (es.map (S.E κ))))
  | [] => pe_no
  | [e] => pe_one (hS.e κ X o e)
  | e :: e2 :: es => PE.imp (pe_or (hS.e κ X o e) (ok_orE hS o (e2 :: es))) fun σ H Q h => se_or σ H Q h
theorem pw_no {e : Expr} : PW X e (tT K cl noT) := ⟨fun _ _ _ _ _ _ _ h => by obtain ⟨_, _, _, _, _, _, _, e, _⟩ := h; cases e⟩
theorem ok_andT (hS : SemOk K cl Δ k S) (o : XOk K cl Δ k κ X) {pos : Pos} : ∀ es : List Expr, PW X (.BoolOp .And es pos) (tT K cl (andTs (es.map (S.T κ))))
  | [] => pw_no
  | [e] => pw_and1 (hS.t κ X o e)
  | e :: e2 :: es => PW.imp (pw_and (hS.t κ X o e) (ok_andT hS o (e2 :: es))) fun σ H Q h => st_and σ H Q h
theorem ok_orT (hS : SemOk K cl Δ k S) (o : XOk K cl Δ k κ X) {pos : Pos} : ∀ es : List Expr, PW X (.BoolOp .Or es pos) (tT K cl (orTs (es.map (S.T κ))))
  | [] => pw_no
  | [e] => pw_or1 (hS.t κ X o e)
  | e :: e2 :: es => PW.imp (pw_or (hS.t κ X o e) (ok_orT hS o (e2 :: es))) fun σ H Q h => st_or σ H Q h
/-! ### calls -/
theorem blt_ok (o : XOk K cl Δ k κ X) {x : Str} {p : List D → Option BV} (h : bltP x = some p) : ∃ id r, bootBuiltins x = some (.builtin id) ∧ CallR X (.builtin id) r ∧ POk K cl r p := by
  have kf := o.kf
  unfold bltP at h
  split at h
  · rename_i hx
    injection h with h
    subst h
    rw [eq_of_beq hx]
    have z := call_len (X := X)
    rw [kf] at z
    exact ⟨_, _, by decide +kernel, z, p_len⟩
  · split at h
    · rename_i hx
      injection h with h
      subst h
      rw [eq_of_beq hx]
      exact ⟨_, _, by decide +kernel, call_abs, p_abs⟩
    · split at h
      · rename_i hx
        injection h with h
        subst h
        rw [eq_of_beq hx]
        exact ⟨_, _, by decide +kernel, call_max2 o.calm, p_max2⟩
      · split at h
        · rename_i hx
          injection h with h
          subst h
          rw [eq_of_beq hx]
          exact ⟨_, _, by decide +kernel, call_min2 o.calm, p_min2⟩
        · split at h
          · rename_i hx
            injection h with h
            subst h
            rw [eq_of_beq hx]
            have z := cr_all (X := X) o.calm
            rw [kf] at z
            exact ⟨_, _, by decide +kernel, z, p_all⟩
          · split at h
            · rename_i hx
              injection h with h
              subst h
              rw [eq_of_beq hx]
              have z := cr_any (X := X) o.calm
              rw [kf] at z
              exact ⟨_, _, by decide +kernel, z, p_any⟩
            · cases h
theorem ty_ok (o : XOk K cl Δ k κ X) {x : Str} {p : List D → Option BV} (h : tyP x = some p) : ∃ id r, bootBuiltins x = some (.type id) ∧ CallR X (.type id) r ∧ POk K cl r p := by
  have kf := o.kf
  unfold tyP at h
  split at h
  · rename_i hx
    injection h with h
    subst h
    rw [eq_of_beq hx]
    have z := call_list_of (X := X)
    rw [kf] at z
    exact ⟨_, _, by decide +kernel, z, p_list⟩
  · split at h
    · rename_i hx
      injection h with h
      subst h
      rw [eq_of_beq hx]
      have z := call_tuple_of (X := X)
      rw [kf] at z
      exact ⟨_, _, by decide +kernel, z, p_tuple⟩
    · split at h
      · rename_i hx
        injection h with h
        subst h
        rw [eq_of_beq hx]
        exact ⟨_, _, by decide +kernel, call_int1, p_int⟩
      · cases h
theorem ok_call (hS : SemOk K cl Δ k S) (o : XOk K cl Δ k κ X) {x : Str} {es : List Expr} {p pos : Pos} : PE X (.Call (.Name x p) es [] pos) (tE K cl (callF Δ S κ x es)) := by
  unfold callF
  split
  · rename_i hc
    rw [Bool.and_eq_true, Bool.and_eq_true] at hc
    obtain ⟨⟨hd, hg⟩, hst⟩ := hc
    obtain ⟨d1, d2, d3⟩ := dbg_ok hd
    have hA := ok_args hS o es
    split
    · rename_i n den q
      obtain ⟨f, fd, ps, m1, m2, m3, m4, m5⟩ := o.fn x n den q
      rw [← o.kf] at m2 m3 m5
      cases es with
      | nil =>
        refine PE.imp (pe_callG0 m5 o.room o.gd (o.gl hg) m1 m2 m3 (pass0) d1) fun σ H Q h => ?_
        have z : tCallG (SpD K cl n den) E0 (tA K cl (argA S κ [])) σ H Q := by
          have y := se_call (E := E0) σ H Q h
          unfold tCall at y
          simp only [List.append_nil] at y
          exact y
        rw [o.kf]
        exact sa_nil σ H _ z
      | cons e es =>
        rw [List.all_cons, Bool.and_eq_true] at hst
        have hse : isStar e = false := by simpa using hst.1
        refine PE.imp (pe_callG m5 o.room o.gd (o.gl hg) m1 m2 m3 (pass0) hA d1 (star_cons hse) (star_any hst.2)) fun σ H Q h => ?_
        have z : tCallG (SpD K cl n den) E0 (tA K cl (argA S κ (e :: es))) σ H Q := by
          have y := se_call (E := E0) σ H Q h
          unfold tCall at y
          simp only [List.append_nil] at y
          exact y
        rw [o.kf]
        exact z
    · split
      · rename_i hf
        rw [Bool.and_eq_true] at hf
        have hm := o.free x hf.1
        cases es with
        | nil => cases hf.2
        | cons e es =>
          rw [List.all_cons, Bool.and_eq_true] at hst
          have hse : isStar e = false := by simpa using hst.1
          split
          · rename_i pp q
            obtain ⟨id, r, b1, b2, b3⟩ := blt_ok o q
            exact PE.imp (pe_callB b2 (o.gl hg) hm b1 hA d3 d1 (star_cons hse) (star_any hst.2)) fun σ H Q h => se_prim b3 σ H Q h
          · split
            · rename_i pp q
              obtain ⟨id, r, b1, b2, b3⟩ := ty_ok o q
              exact PE.imp (pe_callTy b2 (o.gl hg) hm b1 hA d3 d1 (star_cons hse) (star_any hst.2)) fun σ H Q h => se_prim b3 σ H Q h
            · exact pe_no
      · exact pe_no
  · exact pe_no
theorem star_all {pos : Pos} {env : Env} : ∀ {es : List Expr}, (es.all fun e => !isStar e) = true → (backTo pos (starEach es env)).all (fun x => !x.1) = true
  | [], _ => rfl
  | e :: es, h => by
    rw [List.all_cons, Bool.and_eq_true] at h
    have h1 : isStar e = false := by simpa using h.1
    rw [star_cons h1]
    show (true && (backTo pos (starEach es env)).all (fun x => !x.1)) = true
    rw [star_all h.2]
    rfl
theorem few_ok {e : Expr} {es : List Expr} {env : Env} {cpos : Pos} (h : ((e :: es).all fun e => !isStar e) = true) (hl : (e :: es).length < 20) :
    ((backTo cpos (starEach (e :: es) env)).all (fun x => !x.1) && (backToKw cpos (keywordEach [] env)).all (fun x => x.1.isSome)
      && decide ((e :: es).length + ([] : List Keyword).length + (if ([] : List Keyword).isEmpty then 0 else 1) < 30)) = true := by
  rw [star_all h]
  show (true && true && decide ((e :: es).length + 0 + 0 < 30)) = true
  rw [decide_eq_true (by omega)]
  rfl
theorem ok_meth (hS : SemOk K cl Δ k S) (o : XOk K cl Δ k κ X) {ob : Expr} {m : Str} {es : List Expr} {apos pos : Pos} : PE X (.Call (.Attribute ob m apos) es [] pos) (tE K cl (methF S κ ob m es (apos.endLine == pos.line))) := by
  unfold methF
  split
  · rename_i hc
    simp only [Bool.and_eq_true] at hc
    obtain ⟨⟨⟨⟨h1, h2⟩, h3⟩, h4⟩, h5⟩ := hc
    have hcall : isCall ob = false := by simpa using h1
    have hlen := of_decide_eq_true h4
    have hA := ok_args hS o es
    have ho := hS.e κ X o ob
    cases es with
    | nil => cases h5
    | cons e es =>
      have h3' := h3
      rw [List.all_cons, Bool.and_eq_true] at h3'
      have hse : isStar e = false := by simpa using h3'.1
      have kf := o.kf
      split
      · rename_i hm
        rw [eq_of_beq hm]
        have z := pe_bm (X := X) (apos := apos) (cpos := pos) PySem.F.plainAttrs_list PySem.F.slot_list_append PySem.F.type_list_append mt_append ho hA (attr_no hcall) (few_ok h3 hlen) h2 (star_cons hse) (star_any h3'.2)
        rw [kf] at z
        exact PE.imp z fun σ H Q h => se_ownM m_append σ H Q h
      · split
        · rename_i hm
          rw [eq_of_beq hm]
          have z := pe_bm (X := X) (apos := apos) (cpos := pos) PySem.F.plainAttrs_list PySem.F.slot_list_extend PySem.F.type_list_extend mt_extend ho hA (attr_no hcall) (few_ok h3 hlen) h2 (star_cons hse) (star_any h3'.2)
          rw [kf] at z
          exact PE.imp z fun σ H Q h => se_ownM m_extend σ H Q h
        · split
          · rename_i hm
            rw [eq_of_beq hm]
            have z := pe_bm (X := X) (apos := apos) (cpos := pos) PySem.F.plainAttrs_list PySem.F.slot_list_pop PySem.F.type_list_pop mt_popAt ho hA (attr_no hcall) (few_ok h3 hlen) h2 (star_cons hse) (star_any h3'.2)
            rw [kf] at z
            exact PE.imp z fun σ H Q h => se_ownM m_popAt σ H Q h
          · exact pe_no
  · exact pe_no
theorem ok_part (hS : SemOk K cl Δ k S) (o : XOk K cl Δ k κ X) : ∀ e : Option Expr, PO X e (tO K cl (partO S κ e))
  | none => ⟨fun pins s σ H Q I h => (po_none (X := X)).run pins s σ H Q I (so_none σ H Q h)⟩
  | some e => ⟨fun pins s σ H Q I h => (po_some (hS.e κ X o e)).run pins s σ H Q I (so_some σ H Q h)⟩
theorem ok_sub (hS : SemOk K cl Δ k S) (o : XOk K cl Δ k κ X) {a b : Expr} {pos : Pos} : PE X (.Subscript a b pos) (tE K cl (subF S κ a b)) := by
  unfold subF
  split
  · rename_i lo hi p
    have z := sl_any (X := X)
    rw [o.kf] at z
    exact PE.imp (pe_slice z (hS.e κ X o a) (ok_part hS o lo) (ok_part hS o hi)) fun σ H Q h => se_sl σ H Q h
  · exact pe_no
  · rename_i h1 h2
    have hs : isSlice b = false := by
      cases b with
      | Slice lo hi st p =>
        cases st with
        | none => exact absurd rfl (h1 lo hi p)
        | some e => exact absurd rfl (h2 lo hi e p)
      | _ => rfl
    have z := ix_seq (X := X)
    rw [o.kf] at z
    exact PE.imp (pe_ix z (hS.e κ X o a) (hS.e κ X o b) (sub_no hs)) fun σ H Q h => se_op p_ix σ H Q h
/-! ### targets, comprehensions -/
theorem loc_ok (o : XOk K cl Δ k κ X) {x : Str} (h : locB κ x = true) : Loc X.env.scope x ∧ (X.fn x = true ∨ X.env.scope.names.lookup x = some .local) := by
  rw [o.sc, o.fns]
  unfold locB at h
  split at h
  · rename_i e
    exact ⟨.inl e, .inr e⟩
  · rename_i e
    exact ⟨.inr e, .inl h⟩
  · cases h
theorem ok_tgN (o : XOk K cl Δ k κ X) {e : Expr} {i : Nat} (h : tgN Δ κ e = some i) : PG X e (tG K cl [i] (nameG i)) := by
  cases e with
  | Name x p =>
    have h : (if locB κ x then ixOf Δ.N x else none) = some i := h
    split at h
    · rename_i hl
      obtain ⟨h1, h2⟩ := loc_ok o hl
      have hN : X.N[i]? = some x := by
        rw [o.n]
        exact ix_ok h
      have hnd : X.N.Nodup := by
        rw [o.n]
        exact o.nd
      exact PG.imp (pg_name hnd hN h1 h2) fun v σ H Q h => sg_name i v σ H Q h
    · cases h
  | _ => cases h
theorem tgN_name {e : Expr} {i : Nat} (h : tgN Δ κ e = some i) : ∃ x p, e = .Name x p := by
  cases e with
  | Name x p => exact ⟨x, p, rfl⟩
  | _ => cases h
theorem ok_tgNs (o : XOk K cl Δ k κ X) : ∀ {es : List Expr} {is : List Nat}, tgNs Δ κ es = some is → PGs X es (tGs K cl is (namesG is)) ∧ (assignEach es X.env).length = is.length ∧ (assignEach es X.env).findIdx? (·.1) = none
  | [], is, h => by
    injection h with h
    subst h
    exact ⟨PGs.imp pgs_nil fun v σ H Q h => sg_nil v σ H Q h, rfl, rfl⟩
  | e :: es, is, h => by
    unfold tgNs at h
    cases q : tgN Δ κ e with
    | none => rw [q] at h; cases h
    | some i =>
      rw [q] at h
      simp only at h
      cases q2 : tgNs Δ κ es with
      | none => rw [q2] at h; cases h
      | some is' =>
        rw [q2] at h
        injection h with h
        subst h
        obtain ⟨h1, h2, h3⟩ := ok_tgNs o q2
        obtain ⟨x, p, rfl⟩ := tgN_name q
        refine ⟨PGs.imp (pgs_cons (ok_tgN o q) h1 rfl) fun v σ H Q h => sg_cons v σ H Q h, ?_, ?_⟩
        · show (assignEach es X.env).length + 1 = is'.length + 1
          rw [h2]
        · show List.findIdx? (·.1) ((false, assign (.Name x p) X.env) :: assignEach es X.env) = none
          rw [List.findIdx?_cons, h3]
          rfl
theorem ok_tg (o : XOk K cl Δ k κ X) {e : Expr} {ix : List Nat} {g : FG} (h : tgF Δ κ e = some (ix, g)) : PG X e (tG K cl ix g) := by
  cases e with
  | Name x p =>
    unfold tgF at h
    simp only at h
    cases q : tgN Δ κ (.Name x p) with
    | none => rw [q] at h; cases h
    | some i =>
      rw [q] at h
      injection h with h
      injection h with h1 h2
      subst h1
      subst h2
      exact ok_tgN o q
  | Tuple es kk p =>
    unfold tgF at h
    simp only at h
    cases q : tgNs Δ κ es with
    | none => rw [q] at h; cases h
    | some is =>
      rw [q] at h
      injection h with h
      injection h with h1 h2
      subst h1
      subst h2
      obtain ⟨h1, h2, h3⟩ := ok_tgNs o q
      have z := pg_tup (k := kk) (pos := p) o.calm h1 h2 h3
      rw [o.kf] at z
      exact PG.imp z fun v σ H Q h => sg_tup v σ H Q h
  | _ => cases h
theorem relabel_relS (scope : Scope) (env : Env) : relabel scope env = relS scope env.scope := rfl
theorem XOk.blk (o : XOk K cl Δ k κ X) {scope : Scope} (hk : scope.kind = .function) (s : Shared) (H : Hp) (C : Addr) (cs : List (Str × Addr)) (fp : List Addr) :
    XOk K cl Δ k (blkK κ scope) (X.blk s H scope (compEnvC scope cs C X.env) fp) where
  kf := o.kf
  n := o.n
  nd := o.nd
  calm := o.calm
  xe := rfl
  room := o.room
  gd := o.gd
  more := o.mblk _ _ _ _ _ _ o.more
  mblk := o.mblk
  sc := by
    show relabel scope X.env = relS scope κ.sc
    rw [relabel_relS, o.sc]
  kind := hk
  fns := rfl
  fn := o.fn
  cst := o.cst
  free := o.free
theorem ok_tests (hS : SemOk K cl Δ k S) (o : XOk K cl Δ k κ X) (ifs : List Expr) : PTs X ifs (tT K cl (testsF S κ ifs)) := by
  unfold testsF
  split
  · exact PTs.imp pts_nil fun σ H Q h => st_yes σ H Q h
  · rename_i c
    exact pts_one (hS.t κ X o c)
  · refine ⟨fun _ _ _ _ _ _ h => ?_⟩
    obtain ⟨_, _, _, _, _, _, _, e, _⟩ := h
    cases e
/-- what a comprehension's reading wants, all at once -/
structure CompOk (K : PySem.W.Frag) (cl : Str → Option Addr) (Δ : Inf) (S : Sem) (κ : Kx) (X : Cx) (elt tg iter : Expr) (ifs : List Expr) (scope : Scope) (ix : List Nat) (g : FG) : Prop where
  pi : PI X tg iter (tI K cl (S.I κ tg iter))
  blk : BlkOk X.N X.env.scope scope (ownOf Δ scope)
  pg : ∀ (s : Shared) (H : Hp) (C : Addr) (cs : List (Str × Addr)) (fp : List Addr), PG (X.blk s H scope (compEnvC scope cs C X.env) fp) tg (tG K cl ix g)
  pt : ∀ (s : Shared) (H : Hp) (C : Addr) (cs : List (Str × Addr)) (fp : List Addr), PTs (X.blk s H scope (compEnvC scope cs C X.env) fp) ifs (tT K cl (testsF S (blkK κ scope) ifs))
  pe : ∀ (s : Shared) (H : Hp) (C : Addr) (cs : List (Str × Addr)) (fp : List Addr), PE (X.blk s H scope (compEnvC scope cs C X.env) fp) elt (tE K cl (S.E (blkK κ scope) elt))
  nd : X.N.Nodup
  fold : ∀ x, foldedSetIterable iter X.env x = pure x
  sub : ∀ j ∈ ix, j ∈ (ownOf Δ scope).map (·.2)
theorem comp_parts (hS : SemOk K cl Δ k S) (o : XOk K cl Δ k κ X) {elt tg iter : Expr} {ifs : List Expr} {scope : Scope} {ix : List Nat} {g : FG} (h1 : (blkC Δ.N κ.sc scope (ownOf Δ scope) && !isSetD iter) = true)
    (h2 : tgF Δ (blkK κ scope) tg = some (ix, g)) (h3 : (ix.all fun i => decide (i ∈ (ownOf Δ scope).map (·.2))) = true) : CompOk K cl Δ S κ X elt tg iter ifs scope ix g := by
  rw [Bool.and_eq_true] at h1
  have bk := blkOk_by h1.1
  have hk : scope.kind = .function := bk.kind
  refine ⟨hS.i κ X o tg iter, ?_, fun s H C cs fp => ok_tg (o.blk hk s H C cs fp) h2, fun s H C cs fp => ok_tests hS (o.blk hk s H C cs fp) ifs, fun s H C cs fp => hS.e _ _ (o.blk hk s H C cs fp) elt, ?_, fold_no (by simpa using h1.2), ?_⟩
  · rw [o.n, o.sc]
    exact bk
  · rw [o.n]
    exact o.nd
  · intro j hj
    have := List.all_eq_true.mp h3 j hj
    exact of_decide_eq_true this
theorem ok_comp (hS : SemOk K cl Δ k S) (o : XOk K cl Δ k κ X) {elt : Expr} {gs : List Comprehension} {scope : Scope} {pos : Pos} : PE X (.ListComp elt gs scope pos) (tE K cl (compF Δ S κ elt gs scope)) := by
  unfold compF
  split
  · rename_i tg iter ifs
    split
    · rename_i h1
      split
      · rename_i ix g h2
        split
        · rename_i h3
          have c := comp_parts (elt := elt) (ifs := ifs) hS o h1 h2 h3
          exact PE.imp (pe_lc o.calm c.nd c.pi c.blk c.pg c.pt c.pe c.fold) fun σ H Q h => se_lc c.sub σ H Q h
        · exact pe_no
      · exact pe_no
    · exact pe_no
  · exact pe_no
/-! ### all expressions -/
theorem ok_dE (hS : SemOk K cl Δ k S) (o : XOk K cl Δ k κ X) (e : Expr) : PE X e (tE K cl (dE Δ S κ e)) := by
  unfold dE
  split
  · exact ok_name o
  · exact ok_const
  · exact ok_bin hS o
  · exact PE.imp (pe_un un_neg (hS.e κ X o _)) fun σ H Q h => se_un p_neg σ H Q h
  · exact PE.imp (pe_not (hS.e κ X o _)) fun σ H Q h => se_not σ H Q h
  · exact ok_andE hS o _
  · exact ok_orE hS o _
  · exact ok_cmp hS o
  · exact PE.imp (pe_ifExp (hS.t κ X o _) (hS.e κ X o _) (hS.e κ X o _)) fun σ H Q h => se_if σ H Q h
  · exact PE.imp (pe_lst (ok_args hS o _)) fun σ H Q h => se_lst σ H Q h
  · exact PE.imp (pe_tup (ok_args hS o _)) fun σ H Q h => se_tup σ H Q h
  · exact ok_sub hS o
  · exact ok_call hS o
  · exact ok_meth hS o
  · exact ok_comp hS o
  · exact pe_no
theorem pt_tru {e : Expr} {f : FE} (hk : X.K = K) (h : PE X e (tE K cl f)) (he : ∀ whole, isTrue e X.env whole = (do let v ← whole; standAt e.pos; holding [v] (truthy v))) : PT X e (tT K cl (truT f)) := by
  have z := pt_truth h he
  rw [hk] at z
  exact PT.imp z fun σ H Q h => st_tru σ H Q h
theorem ok_xE {ξ : Ext} (hξ : ExtOk K cl Δ k ξ) (hS : SemOk K cl Δ k S) (o : XOk K cl Δ k κ X) (e : Expr) : PE X e (tE K cl (xE Δ S ξ κ e)) := by
  unfold xE
  split
  · rename_i f q
    exact hξ.e S hS κ X o e f q
  · exact ok_dE hS o e
theorem ok_dT {ξ : Ext} (hξ : ExtOk K cl Δ k ξ) (hS : SemOk K cl Δ k S) (o : XOk K cl Δ k κ X) (e : Expr) : PT X e (tT K cl (dT Δ S ξ κ e)) := by
  unfold dT
  split
  · exact PT.imp (pt_not (hS.t κ X o _)) fun σ H Q h => st_not σ H Q h
  · rename_i op x p hn
    refine pt_tru o.kf (ok_xE hξ hS o _) ?_
    intro whole
    cases op with
    | Not => exact (hn rfl).elim
    | _ => rfl
  · exact (ok_andT hS o _).pt
  · exact (ok_orT hS o _).pt
  · exact pt_no
  · exact pt_cmpF hS o
  · rename_i h1 h2 h3 h4 h5 h6
    refine pt_tru o.kf (ok_xE hξ hS o _) ?_
    intro whole
    cases e with
    | UnaryOp op x p => exact (h2 op x p rfl).elim
    | BoolOp op es p =>
      cases op with
      | And => exact (h3 es p rfl).elim
      | Or => exact (h4 es p rfl).elim
    | IfExp a b c p => exact (h5 a b c p rfl).elim
    | Compare a b c p => exact (h6 a b c p rfl).elim
    | _ => rfl
theorem ok_range (hS : SemOk K cl Δ k S) (o : XOk K cl Δ k κ X) {tg : Expr} {x : Str} {es : List Expr} {f : FI} {p pos : Pos} (h : rangeF Δ S κ x es = some f) : PI X tg (.Call (.Name x p) es [] pos) (tI K cl f) := by
  unfold rangeF at h
  split at h
  · rename_i hc
    rw [Bool.and_eq_true, Bool.and_eq_true] at hc
    obtain ⟨⟨hx, hg⟩, hf⟩ := hc
    have hx := eq_of_beq hx
    subst hx
    split at h
    · rename_i a
      split at h
      · cases h
      · rename_i hs
        injection h with h
        subst h
        exact PI.imp (pi_range1 (o.gl hg) (o.free _ hf) (ok_args hS o [a]) (star_cons (by simpa using hs))) fun σ H R h => si_range1 σ H R h
    · rename_i a b
      split at h
      · cases h
      · rename_i hs
        rw [Bool.or_eq_true, not_or] at hs
        injection h with h
        subst h
        have hb : starEach [b] X.env = [(false, eval b X.env)] := star_cons (by simpa using hs.2)
        have ha : starEach [a, b] X.env = [(false, eval a X.env), (false, eval b X.env)] := by
          rw [star_cons (by simpa using hs.1), hb]
        exact PI.imp (pi_range2 (o.gl hg) (o.free _ hf) (ok_args hS o [a, b]) ha hb) fun σ H R h => si_range2 σ H R h
    · cases h
  · cases h
theorem ok_dI (hS : SemOk K cl Δ k S) (o : XOk K cl Δ k κ X) (tg e : Expr) : PI X tg e (tI K cl (dI Δ S κ tg e)) := by
  have gen : PI X tg e (tI K cl (seqI (S.E κ e))) := by
    have z := pi_seq (tg := tg) (hS.e κ X o e)
    rw [o.kf] at z
    exact PI.imp z fun σ H R h => si_seq σ H R h
  unfold dI
  split
  · rename_i x p es pos
    split
    · rename_i f q
      exact ok_range hS o q
    · exact gen
  · exact gen
theorem ok_xI {ξ : Ext} (hξ : ExtOk K cl Δ k ξ) (hS : SemOk K cl Δ k S) (o : XOk K cl Δ k κ X) (tg e : Expr) : PI X tg e (tI K cl (xI S ξ κ tg e (dI Δ S κ tg e))) := by
  unfold xI
  split
  · rename_i f q
    exact hξ.i S hS κ X o tg e f q
  · exact ok_dI hS o tg e
end
end DL


set_option Elab.async false
set_option linter.all false
set_option maxRecDepth 100000
set_option maxHeartbeats 2000000
/-! THE DATA LAYER, part 11: statements; the reader by levels; a def -/
namespace DL
open PySem PySem.Spec PyProof.Rows L2

def fuelW : Nat := 100000
section
variable (Δ : Inf) (S : Sem)
def blkS (κ : Kx) : List Stmt → FS
  | [] => nxS
  | [st] => S.S κ st
  | st :: r => seqS (S.S κ st) (blkS κ r)
/-- the flag of name = [..] -/
def swapB (κ : Kx) (scope : Scope) (x : Str) (py pos : Pos) : Bool :=
  (match κ.sc.names.lookup x with | some .local => true | _ => false) && (py.line == pos.line) && !(scope.names.any fun (n, k) => n == x && (k == .local || k == .cell))
def setCompF (κ : Kx) (i : Nat) (elt : Expr) (gs : List Comprehension) (scope : Scope) : FS := setS i (compF Δ S κ elt gs scope)
def asgName (κ : Kx) (x : Str) (py : Pos) (e : Expr) : FS := if locB κ x then (match ixOf Δ.N x with
  | some i => if isComp e then (match e with
      | .ListComp elt gs scope pos => setCompF Δ S κ i elt gs scope
      | _ => noS) else setS i (S.E κ e)
  | none => noS) else noS
def asgS (g : FG) (f : FE) : FS := fun s => match f s with
  | some (b, s1) => match froz s1 b with
    | some (d, s2) => match g d s2 with
      | some s3 => some (.nx, s3)
      | none => none
    | none => none
  | none => none
def augS (i : Nat) (f : FE) : FS := fun s => match s.ρ[i]? with
  | some (some (.d (.int a))) => match f s with
    | some (.st (.int b), s1) => some (.nx, { s1 with ρ := s1.ρ.set i (some (.d (.int (a + b)))) })
    | _ => none
  | _ => none
def isTupE : Expr → Bool
  | .Tuple .. => true
  | _ => false
def dS (κ : Kx) : Stmt → FS
  | .Pass _ => nxS
  | .Break _ => brkS
  | .Continue _ => cntS
  | .Expr e _ => if isComp e then noS else exprS (S.E κ e)
  | .Return (some e) _ => retS (S.E κ e)
  | .Return none _ => fun s => some (.ret (.st .non), s)
  | .If c a b _ => ifS (S.T κ c) (blkS S κ a) (blkS S κ b)
  | .While c b [] _ => whileS fuelW (S.T κ c) (blkS S κ b)
  | .For tg iter b [] _ => if isSetD iter then noS else (match tgF Δ κ tg with
    | some (_, g) => loopS (S.I κ tg iter) g (blkS S κ b)
    | none => noS)
  | .Assign [.Name x py] e _ => asgName Δ S κ x py e
  | .Assign [.Subscript o i _] e _ => if isComp e || isSlice i then noS else setIxS (S.E κ e) (S.E κ o) (S.E κ i)
  | .Assign [.Tuple ts kt pt] e _ => if isTupE e || isComp e then noS else (match tgF Δ κ (.Tuple ts kt pt) with
    | some (_, g) => asgS g (S.E κ e)
    | none => noS)
  | .AugAssign (.Name x _) .Add e _ => if locB κ x then (match ixOf Δ.N x with
    | some i => augS i (S.E κ e)
    | none => noS) else noS
  | _ => noS
def xS (ξ : Ext) (κ : Kx) (st : Stmt) : FS := match ξ.S S κ st with
  | some f => f
  | none => dS Δ S κ st
def step (ξ : Ext) : Sem := ⟨xE Δ S ξ, dT Δ S ξ, fun κ tg e => xI S ξ κ tg e (dI Δ S κ tg e), xS Δ S ξ⟩
end
def sem (Δ : Inf) (ξ : Ext) : Nat → Sem
  | 0 => Sem.bot
  | n + 1 => step Δ (sem Δ ξ n) ξ
section
variable {K : PySem.W.Frag} {cl : Str → Option Addr} {Δ : Inf} {k : Nat} {S : Sem} {κ : Kx} {X : Cx}
theorem ok_blk (hS : SemOk K cl Δ k S) (o : XOk K cl Δ k κ X) : ∀ b : List Stmt, PSs X b (tS K cl (blkS S κ b))
  | [] => PSs.imp pss_nil fun D σ H h => ss_nx D σ H h
  | [st] => pss_one (hS.s κ X o st)
  | st :: st2 :: r => PSs.imp (pss_cons (hS.s κ X o st) (ok_blk hS o (st2 :: r))) fun D σ H h => ss_seq D σ H h
theorem swap_eq (o : XOk K cl Δ k κ X) {elt : Expr} {gs : List Comprehension} {scope : Scope} {pos py : Pos} {x : Str} {l : Nat} : swapsWith (.ListComp elt gs scope pos) (some (.Name x py)) l X.env = pure (swapB κ scope x py pos) := by
  have hb : X.env.blockKind = .function := by
    unfold Env.blockKind
    rw [o.sc, o.kind]
    rfl
  show (pure (X.env.blockKind == .function && X.env.kindOf x == some .local && py.line == pos.line && !(scope.names.any fun (n, k) => n == x && (k == .local || k == .cell))) : PySem.Sem Bool) = pure (swapB κ scope x py pos)
  rw [hb]
  have hk : X.env.kindOf x = κ.sc.names.lookup x := by
    show X.env.scope.names.lookup x = _
    rw [o.sc]
  rw [hk]
  unfold swapB
  have e1 : (ScopeKind.function == ScopeKind.function) = true := by decide
  have e2 : (κ.sc.names.lookup x == some NameKind.local) = (match κ.sc.names.lookup x with | some .local => true | _ => false) := by
    cases κ.sc.names.lookup x with
    | none => rfl
    | some kk => cases kk <;> rfl
  rw [e1, e2, Bool.true_and]
theorem ok_asgName (hS : SemOk K cl Δ k S) (o : XOk K cl Δ k κ X) {x : Str} {py pos : Pos} {e : Expr} : PS X (.Assign [.Name x py] e pos) (tS K cl (asgName Δ S κ x py e)) := by
  unfold asgName
  split
  · rename_i hl
    obtain ⟨h1, h2⟩ := loc_ok o hl
    split
    · rename_i i q
      have hN : X.N[i]? = some x := by
        rw [o.n]
        exact ix_ok q
      have hnd : X.N.Nodup := by
        rw [o.n]
        exact o.nd
      split
      · split
        · rename_i elt gs scope p _
          by_cases hb : swapB κ scope x py p = true
          · unfold setCompF compF
            split
            · rename_i tg iter ifs _
              split
              · rename_i c1
                split
                · rename_i ix g c2
                  split
                  · rename_i c3
                    have c := comp_parts (elt := elt) (ifs := ifs) hS o c1 c2 c3
                    have hloc : X.env.scope.names.lookup x = some .local := by
                      rw [o.sc]
                      unfold swapB at hb
                      rw [Bool.and_eq_true, Bool.and_eq_true] at hb
                      have hb := hb.1.1
                      split at hb
                      · assumption
                      · cases hb
                    have hsw : swapsWith (.ListComp elt [⟨tg, iter, ifs, 0⟩] scope p) (some (.Name x py)) pos.line X.env = pure true := by
                      rw [swap_eq o, hb]
                    refine PS.imp (ps_setLc o.calm hnd hN hloc hsw c.pi c.blk c.pg c.pt c.pe c.fold) fun D σ H h => ?_
                    exact se_lc c.sub σ H _ (ss_set D σ H h)
                  · refine ⟨fun _ _ _ _ _ _ h => ?_⟩
                    obtain ⟨_, _, _, _, _, _, _, e, _⟩ := h
                    cases e
                · refine ⟨fun _ _ _ _ _ _ h => ?_⟩
                  obtain ⟨_, _, _, _, _, _, _, e, _⟩ := h
                  cases e
              · refine ⟨fun _ _ _ _ _ _ h => ?_⟩
                obtain ⟨_, _, _, _, _, _, _, e, _⟩ := h
                cases e
            · refine ⟨fun _ _ _ _ _ _ h => ?_⟩
              obtain ⟨_, _, _, _, _, _, _, e, _⟩ := h
              cases e
          · have hsw : swapsWith (.ListComp elt gs scope p) (some (.Name x py)) pos.line X.env = pure false := by
              rw [swap_eq o]
              exact congrArg _ (by simpa using hb)
            exact PS.imp (ps_set hnd hN h1 (ok_comp hS o) hsw h2) fun D σ H h => ss_set D σ H h
        · exact ps_no
      · rename_i hc
        exact PS.imp (ps_set hnd hN h1 (hS.e κ X o e) (swaps_no (by simpa using hc)) h2) fun D σ H h => ss_set D σ H h
    · exact ps_no
  · exact ps_no
theorem ss_asg {ix : List Nat} {g : FG} {f : FE} (D : Ends) (σ : L2.St) (H : Hp) (h : tS K cl (asgS g f) D σ H) : tAsg (tE K cl f) (tG K cl ix g) D σ H := by
  obtain ⟨Φ, Hs, s, o, s', T, r, e, kk⟩ := h
  unfold asgS at e
  cases q1 : f s with
  | none => rw [q1] at e; cases e
  | some y =>
    obtain ⟨b, s1⟩ := y
    rw [q1] at e
    simp only at e
    cases q2 : froz s1 b with
    | none => rw [q2] at e; cases e
    | some y =>
      obtain ⟨d, s2⟩ := y
      rw [q2] at e
      simp only at e
      cases q3 : g d s2 with
      | none => rw [q3] at e; cases e
      | some s3 =>
        rw [q3] at e
        injection e with e
        injection e with e1 e2
        subst e1
        subst e2
        refine ⟨Φ, Hs, s, b, s1, T, r, q1, fun v H1 Hs1 x1 r1 h1 => ?_⟩
        obtain ⟨Hs2, x2, r2, h2⟩ := froz_ok r1 h1 q2
        exact ⟨Φ, Hs2, s2, d, s3, T, r2, h2, q3, fun σ3 H3 Hs3 x3 r3 _ => kk σ3 H3 Hs3 (x1.trans (x2.trans x3)) r3⟩
theorem ss_aug {i : Nat} {f : FE} (D : Ends) (σ : L2.St) (H : Hp) (h : tS K cl (augS i f) D σ H) : tAug i (tE K cl f) (ipI fun i j => i + j) D σ H := by
  obtain ⟨Φ, Hs, s, o, s', T, r, e, kk⟩ := h
  unfold augS at e
  split at e
  · rename_i a q1
    split at e
    · rename_i b s1 q2
      injection e with e
      injection e with e1 e2
      subst e1
      subst e2
      obtain ⟨v, w1, w2⟩ := r.slot i _ q1
      cases w2
      refine ⟨_, w1, Φ, Hs, s, _, _, T, r, q2, fun v H1 Hs1 x1 r1 h1 => ?_⟩
      have h1 : Rep Φ.C Hs1 v (.int b) := h1
      cases h1
      exact ⟨a, b, rfl, rfl, kk _ H1 Hs1 x1 (r1.put (.int _))⟩
    · cases e
  · cases e
theorem sole_no {t e : Expr} {l : Nat} {env : Env} (h : isComp e = false) : swapsWithSole [t] e l env = pure false := swaps_no h
theorem tup_sole {ts : List Expr} {kt : Nat} {pt : Pos} {e : Expr} {env : Env} (h : isTupE e = false) : swappedStores [.Tuple ts kt pt] e env = pure none := by
  cases e <;> (first | rfl | cases h)
theorem ok_dS (hS : SemOk K cl Δ k S) (o : XOk K cl Δ k κ X) (st : Stmt) : PS X st (tS K cl (dS Δ S κ st)) := by
  have hnd : X.N.Nodup := by
    rw [o.n]
    exact o.nd
  unfold dS
  split
  · exact PS.imp ps_pass fun D σ H h => ss_nx D σ H h
  · exact PS.imp ps_break fun D σ H h => ss_brk D σ H h
  · exact PS.imp ps_continue fun D σ H h => ss_cnt D σ H h
  · split
    · exact ps_no
    · rename_i hc
      exact PS.imp (ps_expr (hS.e κ X o _) (swaps_no (by simpa using hc))) fun D σ H h => ss_expr D σ H h
  · exact PS.imp (ps_ret (hS.e κ X o _)) fun D σ H h => ss_ret D σ H h
  · refine PS.imp ps_retN fun D σ H h => ?_
    obtain ⟨Φ, Hs, s, oo, s', T, r, e, kk⟩ := h
    injection e with e
    injection e with e1 e2
    subst e1
    subst e2
    exact kk σ H Hs (Ex.refl _) r .non (Rep.non)
  · exact PS.imp (ps_if (hS.t κ X o _) (ok_blk hS o _) (ok_blk hS o _)) fun D σ H h => ss_if D σ H h
  · exact PS.imp (ps_while o.passes (hS.t κ X o _) (ok_blk hS o _)) fun D σ H h => ss_while D σ H h
  · split
    · exact ps_no
    · rename_i hs
      split
      · rename_i ix g q
        exact PS.imp (ps_for o.passes o.calm (hS.i κ X o _ _) (ok_tg o q) (ok_blk hS o _) (fold_no (by simpa using hs))) fun D σ H h => ss_for D σ H h
      · exact ps_no
  · exact ok_asgName hS o
  · split
    · exact ps_no
    · rename_i oo i p e pos hc
      rw [Bool.or_eq_true, not_or] at hc
      have hi : isSlice i = false := by simpa using hc.2
      have ha : ∀ v, assign (.Subscript oo i p) X.env v = (do
          let ov ← holding [v] (eval oo X.env)
          let iv ← holding [v, ov] (eval i X.env)
          standAt p
          holding [v, ov, iv] (setItem ov iv v)
          release [v, ov, iv] []) := by
        intro v
        cases i <;> (first | rfl | cases hi)
      have hg : PG X (.Subscript oo i p) (gSub (tE K cl (S.E κ oo)) (tE K cl (S.E κ i)) rSetL) := pg_sub (hS.e κ X o oo) (hS.e κ X o i) set_list ha
      exact PS.imp (ps_asg (hS.e κ X o e) hg (sole_no (by simpa using hc.1)) (by cases e <;> rfl) rfl) fun D σ H h => ss_setIx D σ H h
  · split
    · exact ps_no
    · rename_i ts kt pt e pos hc
      rw [Bool.or_eq_true, not_or] at hc
      split
      · rename_i ix g q
        exact PS.imp (ps_asg (hS.e κ X o e) (ok_tg o q) (sole_no (by simpa using hc.2)) (tup_sole (by simpa using hc.1)) rfl) fun D σ H h => ss_asg D σ H h
      · exact ps_no
  · split
    · rename_i x p e pos hl
      obtain ⟨h1, h2⟩ := loc_ok o hl
      split
      · rename_i i q
        have hN : X.N[i]? = some x := by
          rw [o.n]
          exact ix_ok q
        exact PS.imp (ps_aug hnd hN h1 (hS.e κ X o _) ip_add h2) fun D σ H h => ss_aug D σ H h
      · exact ps_no
    · exact ps_no
  · exact ps_no
theorem ok_xS {ξ : Ext} (hξ : ExtOk K cl Δ k ξ) (hS : SemOk K cl Δ k S) (o : XOk K cl Δ k κ X) (st : Stmt) : PS X st (tS K cl (xS Δ S ξ κ st)) := by
  unfold xS
  split
  · rename_i f q
    exact hξ.s S hS κ X o st f q
  · exact ok_dS hS o st
theorem step_ok {ξ : Ext} (hξ : ExtOk K cl Δ k ξ) (hS : SemOk K cl Δ k S) : SemOk K cl Δ k (step Δ S ξ) :=
  ⟨fun κ X o e => ok_xE hξ hS o e, fun κ X o e => ok_dT hξ hS o e, fun κ X o tg e => ok_xI hξ hS o tg e, fun κ X o st => ok_xS hξ hS o st⟩
theorem sem_ok {ξ : Ext} (hξ : ExtOk K cl Δ k ξ) : ∀ n : Nat, SemOk K cl Δ k (sem Δ ξ n)
  | 0 => bot_ok
  | n + 1 => step_ok hξ (sem_ok hξ n)
end
/-! ### a def -/
def defF (Δ : Inf) (ξ : Ext) (n : Nat) (sc : Scope) (body : List Stmt) : FS := blkS (sem Δ ξ n) ⟨sc, fun _ => true⟩ body
def denF (Δ : Inf) (ξ : Ext) (n : Nat) (sc : Scope) (body : List Stmt) : Den := denOf Δ.N.length (defF Δ ξ n sc body)
/-- what is known of the defs that a def calls -/
structure GOk (P : Program) (w : World) (K : PySem.W.Frag) (mg : Str → Option Value) (base : Heap) (cl : Str → Option Addr) (k : Nat) (g : Gam) : Prop where
  fn : ∀ x n den, g.fn x = some (n, den) → ∃ f fd ps, mg x = some (.ref f) ∧ PySem.W.keepIn K (.ref f) = true ∧ Binds K fd ps [] ∧ ps.length = n ∧ FnG P w K mg base CX0 k f fd ps (SpD K cl n den)
  cst : ∀ x d, g.cst x = some d → ∃ u v, mg x = some u ∧ RelV v u ∧ ∀ C H, C.K = K → Rep C H v d
  free : ∀ x, g.free x = true → mg x = none
  more : ∀ X : Cx, X.prog = P → X.w = w → X.K = K → X.mg = mg → X.base = base → g.more X
  mblk : ∀ X s H scope env fp, g.more X → g.more (X.blk s H scope env fp)
theorem fn_read {P : Program} {w : World} {K : PySem.W.Frag} {mg : Str → Option Value} {base : Heap} {cl : Str → Option Addr} {x qual : Str} {params : Arguments} {body : List Stmt} {scope : Scope} {dvs : List V} {kws : List (Str × V)} {f : Addr} {fd : FuncData} {Δ : Inf} {ξ : Ext} {ps : List Str} {k : Nat}
    (n : Nat) (F : FunD K x qual params body scope dvs kws f fd) (S : FnScope Δ.N ps scope) (G : GOk P w K mg base cl k Δ.g) (hξ : ExtOk K cl Δ k ξ) : FnG P w K mg base CX0 (k + 1) f fd ps (SpD K cl ps.length (denF Δ ξ n scope body)) := by
  refine okG F S (fun vs H Q E h => ?_) (fun cdv A outer s H vs Q E hr hgd h => ⟨tS K cl (defF Δ ξ n scope body), PSs.nox ?_, body_start h⟩)
  · obtain ⟨C, g, ds, Hs, b, g', hK, hc, x, hd, hr, hl, e, k⟩ := h
    exact hl
  · refine ok_blk (Δ := Δ) (k := k) (sem_ok hξ n) ?_ body
    exact
    { kf := rfl
      n := rfl
      nd := S.nd
      calm := rfl
      xe := rfl
      room := hr
      gd := hgd
      more := G.more _ rfl rfl rfl rfl rfl
      mblk := G.mblk
      sc := rfl
      kind := S.kind
      fns := rfl
      fn := G.fn
      cst := G.cst
      free := G.free }
end DL


set_option Elab.async false
set_option linter.all false
set_option maxRecDepth 100000
set_option maxHeartbeats 4000000
/-! WORDS: repr of data -/
namespace DL
open PySem PySem.Spec PyProof.Rows L2
def keyP : Key → PyData
  | .inl i => .int i
  | .inr x => .str x
mutual
/-- a value that shows as p -/
inductive Dr (K : PySem.W.Frag) (H : Hp) : V → PyData → Prop
  | non : Dr K H .non .none
  | bl (b : Bool) : Dr K H (.bl b) (.bool b)
  | int (i : Int) : Dr K H (.int i) (.int i)
  | str (x : Str) : Dr K H (.str x) (.str x)
  | lst {a : Addr} {xs : List V} {ds : List PyData} : H a = some (.lst xs) → DrAll K H xs ds → Dr K H (.ref a) (.list ds)
  | tup {a : Addr} {xs : List V} {ds : List PyData} : SqT K H a xs → DrAll K H xs ds → Dr K H (.ref a) (.tuple ds)
  | dct {a : Addr} {ks : List (Key × V)} {ds : List PyData} : H a = some (.dK ks) → DrAll K H (ks.map (·.2)) ds → Dr K H (.ref a) (.dict ((ks.map fun q => keyP q.1).zip ds))
inductive DrAll (K : PySem.W.Frag) (H : Hp) : List V → List PyData → Prop
  | nil : DrAll K H [] []
  | cons {v : V} {vs : List V} {d : PyData} {ds : List PyData} : Dr K H v d → DrAll K H vs ds → DrAll K H (v :: vs) (d :: ds)
end
theorem DrAll.length {K : PySem.W.Frag} {H : Hp} : ∀ {vs : List V} {ds : List PyData}, DrAll K H vs ds → vs.length = ds.length
  | _, _, .nil => rfl
  | _, _, .cons _ t => by rw [List.length_cons, List.length_cons, DrAll.length t]
/-- the run's own table of modules stands in the written part -/
def SysK (K : PySem.W.Frag) : Prop := ∃ o, K.lookup sysModules = some o
section
variable {X : Cx} {pins : List (Addr × Obj)} {σ : L2.St} {H : Hp} {s : Shared}
theorem sys_ne (I : Inv X pins σ H s) (S : SysK X.K) {a : Addr} {o : HO} (h : H a = some o) : a ≠ sysModules := fun z => by
  obtain ⟨oS, hS⟩ := S
  have q := (I.bs sysModules oS (I.mod.kin _ _ hS)).2
  rw [z, q] at h
  cases h
theorem reads_keys {P : Program} {w : World} {h : Heap} : ∀ {es : List DictEntry} {kvs : List (Key × Value)} {ks : List (Key × V)}, Pairs (mixKind P w) es kvs → KV ks kvs → ReadsAll h (es.map (·.key)) (ks.map fun q => keyP q.1) [] ∧ Vals (ks.map (·.2)) (es.map (·.val))
  | _, _, _, .nil, r => by
    cases r
    exact ⟨ReadsAll.nil, .nil⟩
  | _, _, _, .cons (e := e) h1 h2 t, r => by
    cases r with
    | @cons p _ _ _ r1 r2 =>
      obtain ⟨z1, z2⟩ := r1
      obtain ⟨t1, t2⟩ := reads_keys (h := h) t r2
      have key : Reads h e.key (keyP p.1) [] := by
        rw [z1]
        rcases keyIs_shape h1 with ⟨i, tk, q1, q2⟩ | ⟨x, tk, q1, q2⟩
        · rw [q1, q2]
          exact Reads.int i tk
        · rw [q1, q2]
          exact Reads.str x tk
      refine ⟨ReadsAll.cons (as := []) (bs := []) key t1, .cons ?_ t2⟩
      show RelV p.2 e.val
      rw [h2]
      exact z2
mutual
theorem Dr.reads (I : Inv X pins σ H s) (S : SysK X.K) : ∀ {v : V} {d : PyData} {u : Value}, Dr X.K H v d → RelV v u → ∃ as, Reads s.heap u d as ∧ sysModules ∉ as
  | _, _, _, .non, r => by
    cases r
    exact ⟨_, Reads.none, by simp⟩
  | _, _, _, .bl b, r => by
    cases r
    exact ⟨_, Reads.bool b, by simp⟩
  | _, _, _, .int i, r => by
    obtain ⟨t, rfl⟩ := r
    exact ⟨_, Reads.int i t, by simp⟩
  | _, _, _, .str x, r => by
    obtain ⟨t, rfl⟩ := r
    exact ⟨_, Reads.str x t, by simp⟩
  | _, _, _, .lst h ha, r => by
    cases r
    obtain ⟨_, its, n, rv, ho⟩ := (show ObjOk X.prog X.w H s.heap _ (.lst _) from I.hok _ _ h)
    obtain ⟨as, hr, hs⟩ := DrAll.reads I S ha rv
    exact ⟨_, Reads.list ho rfl rfl (by simpa using hr), fun z => by
      rcases List.mem_cons.mp z with z | z
      · exact sys_ne I S h z.symm
      · exact hs z⟩
  | _, _, _, .tup h ha, r => by
    cases r
    obtain ⟨its, rv, ⟨o, ho, hc, n, hd⟩, _⟩ := I.tuple h
    obtain ⟨as, hr, hs⟩ := DrAll.reads I S ha rv
    exact ⟨_, Reads.tuple ho hc hd (by simpa using hr), hs⟩
  | _, _, _, .dct (ks := ks) h ha, r => by
    cases r
    obtain ⟨_, _, vs, kv, o, es, ep, ho, hx, hd, hk, hp, _⟩ := (show ObjOk X.prog X.w H s.heap _ (.dK _) from I.hok _ _ h)
    obtain ⟨h1, h2⟩ := reads_keys (h := s.heap) hp kv
    obtain ⟨as, hr, hs⟩ := DrAll.reads I S ha h2
    have hl := DrAll.length ha
    rw [List.length_map] at hl
    refine ⟨_, Reads.dict ho hx.1 hd (as := []) (bs := as) ?_ ?_, fun z => ?_⟩
    · rw [List.map_fst_zip (by rw [List.length_map]; omega)]
      exact h1
    · rw [List.map_snd_zip (by rw [List.length_map]; omega)]
      exact hr
    · rcases List.mem_append.mp z with z | z
      · rcases List.mem_cons.mp z with z | z
        · exact sys_ne I S h z.symm
        · cases z
      · exact hs z
theorem DrAll.reads (I : Inv X pins σ H s) (S : SysK X.K) : ∀ {vs : List V} {ds : List PyData} {us : List Value}, DrAll X.K H vs ds → Vals vs us → ∃ as, ReadsAll s.heap us ds as ∧ sysModules ∉ as
  | _, _, _, .nil, r => by
    cases r
    exact ⟨_, ReadsAll.nil, by simp⟩
  | _, _, _, .cons h t, r => by
    cases r with
    | cons r1 r2 =>
      obtain ⟨as, h1, s1⟩ := Dr.reads I S h r1
      obtain ⟨bs, h2, s2⟩ := DrAll.reads I S t r2
      exact ⟨_, ReadsAll.cons h1 h2, fun z => by
        rcases List.mem_append.mp z with z | z
        · exact s1 z
        · exact s2 z⟩
end
end
/-- repr(x), x an object -/
def rRepr (K : PySem.W.Frag) : List V → Hp → VK → Prop := fun xs H Q => ∃ (a : Addr) (p : PyData), xs = [.ref a] ∧ Dr K H (.ref a) p ∧ p.showable = true ∧ p.shown.length ≤ sizeLine ∧ p.depth ≤ 30 ∧ Q (.str p.shown) H
theorem call_repr {X : Cx} (hgd : X.A.guards = some []) (hu : X.A.units + 64 < cLine) (S : SysK X.K) : CallR X (.builtin "repr") (rRepr X.K) := by
  intro pins s σ H xs us Q I r h
  obtain ⟨a, p, rfl, hd, h1, h2, h3, q⟩ := h
  cases r with
  | cons rx rr =>
    cases rr
    obtain rfl : _ = Value.ref a := rx
    obtain ⟨as, hr, hs⟩ := Dr.reads I S hd (show RelV (.ref a) (Value.ref a) from rfl)
    refine repr_of_reads' hr h1 (fun _ => hs) hgd (by omega) (fun _ _ z => z) (fun h' u tk k => ?_) h2
    exact ⟨.str p.shown, H, I.kept (t' := tk) k, ⟨u, rfl⟩, q⟩
end DL


set_option Elab.async false
set_option linter.all false
set_option maxRecDepth 100000
set_option maxHeartbeats 4000000
/-! WORDS: exceptions as values, isinstance, fields; repr; join; dicts written out -/
namespace DL
open PySem PySem.Spec PyProof.Rows L2
/-! ### join -/
def strsD : List D → Option (List (List Nat))
  | [] => some []
  | .str x :: r => match strsD r with
    | some ys => some (x :: ys)
    | none => none
  | _ => none
theorem strs_reps {C : Ctx} {H : Hp} : ∀ {ds : List D} {xs : List V} {ys : List (List Nat)}, Reps C H xs ds → strsD ds = some ys → xs = (ys.map mkS).map V.str := by
  intro ds
  induction ds with
  | nil =>
    intro xs ys h e
    cases h
    injection e with e
    subst e
    rfl
  | cons d ds ih =>
    intro xs ys h e
    cases h with
    | cons h1 h2 =>
      cases d with
      | str x =>
        unfold strsD at e
        cases q : strsD ds with
        | none => rw [q] at e; cases e
        | some zs =>
          rw [q] at e
          injection e with e
          subst e
          cases h1
          rw [ih h2 q]
          rfl
      | _ => cases e
def joinOk (a : List Nat) (ys : List (List Nat)) : Bool := decide ((ys.map (·.length)).sum + ys.length * a.length ≤ 16777216)
def pJoin : List D → Option BV
  | [.str a, .lst xs] => match strsD xs with
    | some ys => if joinOk a ys then some (.st (.str (TL.joinL a ys))) else none
    | none => none
  | [.str a, .tup xs] => match strsD xs with
    | some ys => if joinOk a ys then some (.st (.str (TL.joinL a ys))) else none
    | none => none
  | _ => none
def rJoin (K : PySem.W.Frag) : V → List V → Hp → VK → Prop := fun x xs H Q => ∃ a p, ∃ ys : List Str, x = .str a ∧ xs = [.ref p] ∧ (SqL K H p (ys.map V.str) ∨ SqT K H p (ys.map V.str)) ∧ (ys.map (·.length)).sum + ys.length * a.length ≤ 16777216 ∧ Q (.str (Txt.join a ys)) H
theorem join_len {a : List Nat} {ys : List (List Nat)} (h : joinOk a ys = true) : ((ys.map mkS).map (·.length)).sum + (ys.map mkS).length * (mkS a).length ≤ 16777216 := by
  have h := of_decide_eq_true h
  have e : (ys.map mkS).map (·.length) = ys.map (·.length) := by
    rw [List.map_map]
    exact List.map_congr_left fun x _ => by
      show (x.toArray).size = x.length
      rw [List.size_toArray]
  rw [e, List.length_map]
  have e2 : (mkS a).length = a.length := by
    show (a.toArray).size = _
    rw [List.size_toArray]
  rw [e2]
  exact h
theorem p_join {K : PySem.W.Frag} {cl : Str → Option Addr} : POk K cl (r0M (rJoin K)) pJoin := by
  intro Φ Hs s σ H vs ds b T r ho e Q k
  unfold pJoin at e
  split at e
  · rename_i a xs
    cases q : strsD xs with
    | none => rw [q] at e; cases e
    | some ys =>
      rw [q] at e
      simp only at e
      split at e
      · rename_i hj
        injection e with e
        subst e
        obtain ⟨x, y, rfl, h1, h2⟩ := ho.two
        rw [opd_str h1]
        obtain ⟨p, zs, rfl, h3, h4⟩ := h2
        have hz := strs_reps h4 q
        subst hz
        refine ⟨_, _, rfl, mkS a, p, ys.map mkS, rfl, rfl, .inl (SqL.of h3), join_len hj, ?_⟩
        have e3 : Txt.join (mkS a) (ys.map mkS) = mkS (TL.joinL a ys) := SX.join_S a ys
        rw [e3]
        exact fin_st r k (.str _)
      · cases e
  · rename_i a xs
    cases q : strsD xs with
    | none => rw [q] at e; cases e
    | some ys =>
      rw [q] at e
      simp only at e
      split at e
      · rename_i hj
        injection e with e
        subst e
        obtain ⟨x, y, rfl, h1, h2⟩ := ho.two
        rw [opd_str h1]
        obtain ⟨p, zs, rfl, h3, h4, _⟩ := opd_tup r.ex h2
        have hz := strs_reps h4 q
        subst hz
        rw [T.k] at h3
        refine ⟨_, _, rfl, mkS a, p, ys.map mkS, rfl, rfl, .inr h3, join_len hj, ?_⟩
        have e3 : Txt.join (mkS a) (ys.map mkS) = mkS (TL.joinL a ys) := SX.join_S a ys
        rw [e3]
        exact fin_st r k (.str _)
      · cases e
  · cases e
/-! ### dicts written out: keys are constants, all different -/
def dictL : List (DK × FE) → DS → Option (List (DK × D) × DS)
  | [], s => some ([], s)
  | (k, f) :: r, s => match f s with
    | some (b, s1) => match froz s1 b with
      | some (d, s2) => match dictL r s2 with
        | some (kvs, s3) => some ((k, d) :: kvs, s3)
        | none => none
      | none => none
    | none => none
def keysDiff : List DK → Bool
  | [] => true
  | k :: r => !r.contains k && keysDiff r
def dictE (l : List (DK × FE)) : FE := fun s => match dictL l s with
  | some (kvs, s') => if keysDiff (l.map (·.1)) then some (.fr (.dct kvs), s') else none
  | none => none
theorem key_inj {a b : DK} (h : a.key = b.key) : a = b := by
  cases a with
  | int i =>
    cases b with
    | int j =>
      injection h with h
      rw [h]
    | str y => cases h
  | str x =>
    cases b with
    | int j => cases h
    | str y =>
      injection h with h
      have h : mkS x = mkS y := h
      injection h with h
      exact congrArg DK.str (congrArg Array.toList h)
theorem merge_diff : ∀ (acc l : List (Key × V)), (∀ p ∈ l, ∀ q ∈ acc, q.1 ≠ p.1) → (l.map (·.1)).Nodup → mergeK acc l = acc ++ l
  | acc, [], _, _ => by simp [mergeK]
  | acc, p :: l, h, n => by
    have hp : putK acc p.1 p.2 = acc ++ [p] := by
      unfold putK
      rw [if_neg]
      intro z
      obtain ⟨q, hq, e⟩ := List.any_eq_true.mp z
      exact h p List.mem_cons_self q hq (of_decide_eq_true e)
    have n := List.nodup_cons.mp n
    show mergeK (putK acc p.1 p.2) l = _
    rw [hp, merge_diff (acc ++ [p]) l (fun p' hp' q hq => ?_) n.2, List.append_assoc]
    · rfl
    · rcases List.mem_append.mp hq with hq | hq
      · exact h p' (List.mem_cons_of_mem _ hp') q hq
      · have : q = p := by simpa using hq
        rw [this]
        intro z
        exact n.1 (List.mem_map.mpr ⟨p', hp', z.symm⟩)
theorem keys_nodup : ∀ {l : List DK}, keysDiff l = true → (l.map DK.key).Nodup
  | [], _ => List.nodup_nil
  | k :: r, h => by
    unfold keysDiff at h
    rw [Bool.and_eq_true] at h
    refine List.nodup_cons.mpr ⟨fun z => ?_, keys_nodup h.2⟩
    obtain ⟨k', h1, h2⟩ := List.mem_map.mp z
    have e := key_inj h2
    subst e
    have z := h.1
    rw [List.contains_iff_mem.mpr h1] at z
    cases z
section
variable {K : PySem.W.Frag} {cl : Str → Option Addr}
theorem pairs_ok {Φ : Fx} (T : Tie K cl Φ) {σ : L2.St} : ∀ (l : List (DK × FE)) {Hs H : Hp} {s s' : DS} {kvs : List (DK × D)} {Q : List (V × V) → Hp → Prop}, Rs Φ Hs s σ H → dictL l s = some (kvs, s') →
    (∀ ks H' Hs', Ex Hs Hs' → Rs Φ Hs' s' σ H' → RepKs Φ.C Hs' ks kvs → ks.map (·.1) = (l.map (·.1)).map DK.key → Q (ks.map fun q => (kV q.1, q.2)) H') →
    tPairs (l.map fun q => (tC (kV q.1.key), tE K cl q.2)) σ H Q := by
  intro l
  induction l with
  | nil =>
    intro Hs H s s' kvs Q r e k
    injection e with e
    injection e with e1 e2
    subst e1
    subst e2
    exact k [] H Hs (Ex.refl _) r .nil rfl
  | cons q l ih =>
    intro Hs H s s' kvs Q r e k
    obtain ⟨key, f⟩ := q
    unfold dictL at e
    cases q1 : f s with
    | none => rw [q1] at e; cases e
    | some y =>
      obtain ⟨b, s1⟩ := y
      rw [q1] at e
      simp only at e
      cases q2 : froz s1 b with
      | none => rw [q2] at e; cases e
      | some y =>
        obtain ⟨d, s2⟩ := y
        rw [q2] at e
        simp only at e
        cases q3 : dictL l s2 with
        | none => rw [q3] at e; cases e
        | some y =>
          obtain ⟨kv2, s3⟩ := y
          rw [q3] at e
          injection e with e
          injection e with e1 e2
          subst e1
          subst e2
          show tE K cl f σ H fun y H2 => tPairs (l.map fun q => (tC (kV q.1.key), tE K cl q.2)) σ H2 fun ps H3 => Q ((kV key.key, y) :: ps) H3
          refine ⟨Φ, Hs, s, b, s1, T, r, q1, fun v H1 Hs1 x1 r1 h1 => ?_⟩
          obtain ⟨Hs2, x2, r2, h2⟩ := froz_ok r1 h1 q2
          refine ih r2 q3 (fun ks H' Hs' x3 r3 h3 hk => ?_)
          exact k ((key.key, v) :: ks) H' Hs' (x1.trans (x2.trans x3)) r3 (.cons (h2.mono x3) h3) (by
            show key.key :: _ = key.key :: _
            rw [hk])
theorem se_dict {l : List (DK × FE)} (hl : l.length ≤ 15) (σ : L2.St) (H : Hp) (Q : VK) (h : tE K cl (dictE l) σ H Q) : tDisp (l.map fun q => (tC (kV q.1.key), tE K cl q.2)) σ H Q := by
  obtain ⟨Φ, Hs, s, b, s', T, r, e, k⟩ := h
  unfold dictE at e
  cases q1 : dictL l s with
  | none => rw [q1] at e; cases e
  | some y =>
    obtain ⟨kvs, s1⟩ := y
    rw [q1] at e
    simp only at e
    split at e
    · rename_i hd
      injection e with e
      injection e with e1 e2
      subst e1
      subst e2
      intro p hp
      obtain ⟨d1, d2, d3⟩ := r.free hp
      have rp : Rs (Φ.pin p (.dK [])) Hs s σ (upd H p (.dK [])) := (r.laid hp _).pin d1 (fun i y e z => by
        obtain ⟨p', e1, e2, e3, e4, e5⟩ := r.own i y e
        obtain ⟨o, eo⟩ := e5.there
        have zz : p' = p := by
          have := e1.symm.trans z
          injection this with this
          injection this with this
          injection this
        subst zz
        rw [hp] at eo
        cases eo) upd_same
      refine pairs_ok T.pin l rp q1 (fun ks H' Hs' x1 r1 hks hk => ?_)
      obtain ⟨h1, h2⟩ := r1.pinned d3
      have n1 : Hs' p = none := (r1.fs p (.dK []) upd_same).trans (by
        have z := rp.fs p (.dK []) upd_same
        rw [d1] at z
        exact z.symm)
      refine ⟨h1, ks, rfl, ?_, ?_⟩
      · have := congrArg List.length hk
        simp only [List.length_map] at this
        omega
      · have hm : mergeK [] ks = ks := by
          rw [merge_diff [] ks (fun _ _ _ z => (nomatch z)) (by rw [hk]; exact keys_nodup hd)]
          rfl
        rw [hm]
        have r2 := (r1.repin (o' := .dK ks) d3 d2 n1).unpin d3 d2
        refine k _ _ Hs' x1 r2 ⟨p, rfl, n1, d2, d3, fun i y e z => h2 i y e z, ks, upd_same, hks⟩
    · cases e
end
end DL


set_option Elab.async false
set_option linter.all false
set_option maxRecDepth 100000
set_option maxHeartbeats 4000000
/-! WORDS: exceptions as values, isinstance, fields, repr -/
namespace DL
open PySem PySem.Spec PyProof.Rows L2
/-! ### repr -/
mutual
def toR : D → Option PyData
  | .non => some .none
  | .bl b => some (.bool b)
  | .int i => some (.int i)
  | .str x => some (.str (mkS x))
  | .lst xs => match toRs xs with
    | some ps => some (.list ps)
    | none => none
  | .tup xs => match toRs xs with
    | some ps => some (.tuple ps)
    | none => none
  | .dct kvs => match toRk kvs with
    | some ps => some (.dict ((kvs.map fun q => keyP q.1.key).zip ps))
    | none => none
  | .obj _ _ => none
  | .dice => none
  | .adr _ => none
  | .scr _ => none
  | .exc _ _ => none
def toRs : List D → Option (List PyData)
  | [] => some []
  | x :: r => match toR x with
    | some p => match toRs r with
      | some ps => some (p :: ps)
      | none => none
    | none => none
def toRk : List (DK × D) → Option (List PyData)
  | [] => some []
  | (k, x) :: r => match toR x with
    | some p => match toRk r with
      | some ps => some (p :: ps)
      | none => none
    | none => none
end
theorem keys_eq {C : Ctx} {H : Hp} : ∀ {ks : List (Key × V)} {kvs : List (DK × D)}, RepKs C H ks kvs → (ks.map fun q => keyP q.1) = kvs.map fun q => keyP q.1.key
  | _, _, .nil => rfl
  | _, _, .cons _ t => by
    show _ :: _ = _ :: _
    rw [keys_eq t]
section
variable {C : Ctx} {Hs H : Hp}
mutual
theorem dr_of (x : Ex Hs H) : ∀ {v : V} {d : D} {p : PyData}, Rep C Hs v d → toR d = some p → Dr C.K H v p
  | _, _, _, .non, e => by
    unfold toR at e
    cases e
    exact .non
  | _, _, _, .bl b, e => by
    unfold toR at e
    cases e
    exact .bl b
  | _, _, _, .int i, e => by
    unfold toR at e
    cases e
    exact .int i
  | _, _, _, .str y, e => by
    unfold toR at e
    cases e
    exact .str _
  | _, _, _, .lst (ds := ds) h r, e => by
    unfold toR at e
    cases q : toRs ds with
    | none => rw [q] at e; cases e
    | some ps =>
      rw [q] at e
      injection e with e
      subst e
      exact .lst (x _ _ h) (drs_of x r q)
  | _, _, _, .tup (ds := ds) h r, e => by
    unfold toR at e
    cases q : toRs ds with
    | none => rw [q] at e; cases e
    | some ps =>
      rw [q] at e
      injection e with e
      subst e
      exact .tup (ex_t x h) (drs_of x r q)
  | _, _, _, .dct (kvs := kvs) h r, e => by
    unfold toR at e
    cases q : toRk kvs with
    | none => rw [q] at e; cases e
    | some ps =>
      rw [q] at e
      injection e with e
      subst e
      rw [← keys_eq r]
      exact .dct (x _ _ h) (drk_of x r q)
  | _, _, _, .obj c h r, e => by unfold toR at e; cases e
  | _, _, _, .dice h, e => by unfold toR at e; cases e
  | _, _, _, .adr a, e => by unfold toR at e; cases e
  | _, _, _, .scr a, e => by unfold toR at e; cases e
  | _, _, _, .exc c h r, e => by unfold toR at e; cases e
theorem drs_of (x : Ex Hs H) : ∀ {v : List V} {d : List D} {p : List PyData}, Reps C Hs v d → toRs d = some p → DrAll C.K H v p
  | _, _, _, .nil, e => by
    unfold toRs at e
    cases e
    exact .nil
  | _, _, _, .cons (d := d) (ds := ds) h r, e => by
    unfold toRs at e
    cases q : toR d with
    | none => rw [q] at e; cases e
    | some p1 =>
      rw [q] at e
      simp only at e
      cases q2 : toRs ds with
      | none => rw [q2] at e; cases e
      | some ps =>
        rw [q2] at e
        injection e with e
        subst e
        exact .cons (dr_of x h q) (drs_of x r q2)
theorem drk_of (x : Ex Hs H) : ∀ {v : List (Key × V)} {d : List (DK × D)} {p : List PyData}, RepKs C Hs v d → toRk d = some p → DrAll C.K H (v.map (·.2)) p
  | _, _, _, .nil, e => by
    unfold toRk at e
    cases e
    exact .nil
  | _, _, _, .cons (d := d) (ds := ds) h r, e => by
    unfold toRk at e
    cases q : toR d with
    | none => rw [q] at e; cases e
    | some p1 =>
      rw [q] at e
      simp only at e
      cases q2 : toRk ds with
      | none => rw [q2] at e; cases e
      | some ps =>
        rw [q2] at e
        injection e with e
        subst e
        exact .cons (dr_of x h q) (drk_of x r q2)
end
end
def showOk (p : PyData) : Bool := p.showable && decide (p.shown.length ≤ lineN) && decide (p.depth ≤ 30)
/-- repr of a list -/
def pRepr : List D → Option BV
  | [.lst xs] => match toRs xs with
    | some ps => if showOk (.list ps) then some (.st (.str (PyData.list ps).shown.cps.toList)) else none
    | none => none
  | _ => none
theorem p_repr {K : PySem.W.Frag} {cl : Str → Option Addr} : POk K cl (rRepr K) pRepr := by
  intro Φ Hs s σ H vs ds b T r ho e Q k
  unfold pRepr at e
  split at e
  · rename_i xs
    cases q : toRs xs with
    | none => rw [q] at e; cases e
    | some ps =>
      rw [q] at e
      simp only at e
      split at e
      · rename_i hs
        unfold showOk at hs
        rw [Bool.and_eq_true, Bool.and_eq_true] at hs
        injection e with e
        subst e
        obtain ⟨x, rfl, p, zs, rfl, h1, h2⟩ := ho.one
        have hd : Dr K H (.ref p) (.list ps) := by
          rw [← T.k]
          exact .lst h1 (drs_of r.ex h2 q)
        refine ⟨p, _, rfl, hd, hs.1.1, by rw [line_eq]; exact of_decide_eq_true hs.1.2, of_decide_eq_true hs.2, ?_⟩
        exact fin_st r k (.str _)
      · cases e
  · cases e
end DL


set_option Elab.async false
set_option linter.all false
set_option maxRecDepth 100000
set_option maxHeartbeats 4000000
/-! WORDS: exceptions as values, isinstance of them, fields -/
namespace DL
open PySem PySem.Spec PyProof.Rows L2
/-- the program's exception classes: without own __init__; with one that keeps a field; names of classes that isinstance is asked with; its answers -/
structure ExT where
  mk0 : List Str
  mk1 : List (Str × Str)
  names : List Str
  isx : Str → Str → Option Bool
def mkE0 (c : Str) (f : FA) : FE := fun s => match f s with
  | some (bs, s1) => if bs.length ≤ 1000 then some (.st (.exc c []), s1) else none
  | none => none
def mkE1 (c fld : Str) (f : FE) : FE := fun s => match f s with
  | some (b, s1) => match froz s1 b with
    | some (d, s2) => some (.st (.exc c [(fld, d)]), s2)
    | none => none
  | none => none
def attrX (fld : Str) (f : FE) : FE := fun s => match f s with
  | some (.st (.exc _ fs), s1) => match fs.lookup fld with
    | some d => some (.st d, s1)
    | none => none
  | _ => none
def isxE (T : ExT) (t : Str) (f : FE) : FE := fun s => match f s with
  | some (.st (.exc c _), s1) => match T.isx c t with
    | some b => some (.st (.bl b), s1)
    | none => none
  | _ => none
/-- what the written part must say of them -/
structure ExcX (cl : Str → Option Addr) (T : ExT) (X : Cx) : Prop where
  c0 : ∀ c ∈ T.mk0, ∃ A, cl c = some A ∧ X.mg c = some (.ref A) ∧ PySem.W.keepIn X.K (.ref A) = true ∧ PlC X.K A
  c1 : ∀ c fld, T.mk1.lookup c = some fld → ∃ A f cda cc par qual params scope p, cl c = some A ∧ X.mg c = some (.ref A) ∧ PySem.W.keepIn X.K (.ref A) = true ∧ SuC X.K A f fld ∧ SuF X.prog X.K A f cda cc par fld qual params scope p
  fl : ∀ c A, cl c = some A → XfC X.K A ∧ (PySem.W.clsIn X.K A).isSome = true ∧ ExcC X.K A ∧ ∀ c' fld, T.mk1.lookup c' = some fld → PySem.W.findIn X.K (.ref A) fld = some none
  nm : ∀ t ∈ T.names, ∃ u v, ClsV v u ∧ ((X.mg t = some u ∧ RelV v u) ∨ (X.mg t = none ∧ bootBuiltins t = some u ∧ RelV v u)) ∧ ∀ c b A, T.isx c t = some b → cl c = some A → PySem.W.kitOne X.K (.ref A) u = some b
  sup : X.mg "super" = none
section
variable {K : PySem.W.Frag} {cl : Str → Option Addr}
theorem se_mk0 {c : Str} {A : Addr} {f : FA} (hc : cl c = some A) (σ : L2.St) (H : Hp) (Q : VK) (h : tE K cl (mkE0 c f) σ H Q) : tMk0 A (tA K cl f) σ H Q := by
  obtain ⟨Φ, Hs, s, b, s', T, r, e, k⟩ := h
  unfold mkE0 at e
  cases q : f s with
  | none => rw [q] at e; cases e
  | some y =>
    obtain ⟨bs, s1⟩ := y
    rw [q] at e
    simp only at e
    split at e
    · rename_i hl
      injection e with e
      injection e with e1 e2
      subst e1
      subst e2
      refine ⟨Φ, Hs, s, bs, s1, T, r, q, fun vs H1 Hs1 x1 r1 h1 => ⟨by rw [h1.length]; exact hl, fun a ha => ?_⟩⟩
      have n1 := (r1.free ha).1
      exact k _ _ _ (x1.trans (Ex.new n1)) (r1.laidS ha _) (Rep.exc (by rw [T.c]; exact hc) (.inl ⟨upd_same, rfl⟩) .nil)
    · cases e
theorem se_mk1 {c fld : Str} {A : Addr} {f : FE} (hc : cl c = some A) (σ : L2.St) (H : Hp) (Q : VK) (h : tE K cl (mkE1 c fld f) σ H Q) : tMk1 A fld (tE K cl f) σ H Q := by
  obtain ⟨Φ, Hs, s, b, s', T, r, e, k⟩ := h
  unfold mkE1 at e
  cases q : f s with
  | none => rw [q] at e; cases e
  | some y =>
    obtain ⟨b1, s1⟩ := y
    rw [q] at e
    simp only at e
    cases q2 : froz s1 b1 with
    | none => rw [q2] at e; cases e
    | some y =>
      obtain ⟨d, s2⟩ := y
      rw [q2] at e
      injection e with e
      injection e with e1 e2
      subst e1
      subst e2
      refine ⟨Φ, Hs, s, b1, s1, T, r, q, fun v H1 Hs1 x1 r1 h1 => fun a dx ha hdx hne => ?_⟩
      obtain ⟨Hs2, x2, r2, h2⟩ := froz_ok r1 h1 q2
      have n1 := (r2.free hdx).1
      have r3 := r2.laidS hdx (exd dx [(fld, v)])
      have ha' : upd H1 dx (exd dx [(fld, v)]) a = none := by
        rw [upd_ne (Ne.symm hne)]
        exact ha
      have n2 := (r3.free ha').1
      refine k _ _ _ (x1.trans (x2.trans ((Ex.new n1).trans (Ex.new n2)))) (r3.laidS ha' _) (Rep.exc (by rw [T.c]; exact hc) (.inr ⟨dx, upd_same, ?_⟩) (.cons ((h2.mono (Ex.new n1)).mono (Ex.new n2)) .nil))
      rw [upd_ne hne, upd_same]
theorem repfs_lookup {C : Ctx} {H : Hp} {f : Str} : ∀ {fs : List (Str × V)} {gs : List (Str × D)} {d : D}, RepFs C H fs gs → gs.lookup f = some d → ∃ v, fs.lookup f = some v ∧ Rep C H v d
  | _, _, _, .nil, e => by cases e
  | _, _, _, .cons (k := k) h t, e => by
    rw [List.lookup_cons] at e ⊢
    cases q : (f == k) with
    | true =>
      rw [q] at e
      injection e with e
      subst e
      exact ⟨_, rfl, h⟩
    | false =>
      rw [q] at e
      exact repfs_lookup t e
theorem se_attrX {fld : Str} {f : FE} (hf : ∀ c A, cl c = some A → XfC K A ∧ PySem.W.findIn K (.ref A) fld = some none) (σ : L2.St) (H : Hp) (Q : VK) (h : tE K cl (attrX fld f) σ H Q) : tXa K fld (tE K cl f) σ H Q := by
  obtain ⟨Φ, Hs, s, b, s', T, r, e, k⟩ := h
  unfold attrX at e
  split at e
  · rename_i c fs s1 q
    split at e
    · rename_i d q2
      injection e with e
      injection e with e1 e2
      subst e1
      subst e2
      refine ⟨Φ, Hs, s, _, s1, T, r, q, fun v H1 Hs1 x1 r1 h1 => ?_⟩
      have h1 : Rep Φ.C Hs1 v (.exc c fs) := h1
      cases h1 with
      | exc hc hx hr =>
        obtain ⟨y, hy, hd⟩ := repfs_lookup hr q2
        rw [T.c] at hc
        obtain ⟨t1, t2⟩ := hf _ _ hc
        exact ⟨_, _, _, y, rfl, hx.mono r1.ex, t1, t2, hy, k y H1 Hs1 x1 r1 hd⟩
    · cases e
  · cases e
theorem se_isx {TT : ExT} {t : Str} {f : FE} {u : Value} {cv : V} (hv : ClsV cv u) (hk : ∀ c b A, TT.isx c t = some b → cl c = some A → PySem.W.kitOne K (.ref A) u = some b)
    (hf : ∀ c A, cl c = some A → (PySem.W.clsIn K A).isSome = true ∧ ExcC K A) (σ : L2.St) (H : Hp) (Q : VK) (h : tE K cl (isxE TT t f) σ H Q) : tCB (rIsX K) (tCons (tE K cl f) (tCons (tC cv) tNil)) σ H Q := by
  obtain ⟨Φ, Hs, s, b, s', T, r, e, k⟩ := h
  unfold isxE at e
  split at e
  · rename_i c fs s1 q
    split at e
    · rename_i bb q2
      injection e with e
      injection e with e1 e2
      subst e1
      subst e2
      refine ⟨Φ, Hs, s, _, s1, T, r, q, fun v H1 Hs1 x1 r1 h1 => ?_⟩
      have h1 : Rep Φ.C Hs1 v (.exc c fs) := h1
      cases h1 with
      | exc hc hx hr =>
        rw [T.c] at hc
        obtain ⟨t1, t2⟩ := hf _ _ hc
        exact ⟨_, _, _, cv, u, bb, rfl, hx.mono r1.ex, t1, t2, hv, hk _ _ _ q2 hc, k _ H1 Hs1 x1 r1 (.bl _)⟩
    · cases e
  · cases e
end
/-! ### the words -/
/-- C(): super alone asks more there -/
def isCall0 : Expr → Bool
  | .Call (.Name _ _) [] [] _ => true
  | _ => false
theorem attr_no0 {e : Expr} {a : Str} {env : Env} (h : isCall0 e = false) : attributeBase e a env (eval e env) = eval e env := by
  cases e with
  | Call f as ks p =>
    cases f with
    | Name x px =>
      cases as with
      | nil =>
        cases ks with
        | nil => cases h
        | cons _ _ => rfl
      | cons _ _ => rfl
    | _ => rfl
  | _ => rfl
section
variable (Δ : Inf) (T : ExT)
def isNameE : Expr → Option Str
  | .Name t _ => some t
  | _ => none
def wCall (S : Sem) (κ : Kx) (x : Str) (es : List Expr) : Option FE :=
  if dbgOk x && glB κ.sc x && (es.all fun e => !isStar e) then (
    if T.mk0.contains x then some (mkE0 x (argA S κ es))
    else match T.mk1.lookup x with
      | some fld => (match es with
        | [e1] => some (mkE1 x fld (S.E κ e1))
        | _ => none)
      | none => if x == ("isinstance" : Str) && Δ.g.free x then (match es with
          | [e1, e2] => (match isNameE e2 with
            | some t => if dbgOk t && glB κ.sc t && T.names.contains t then some (isxE T t (S.E κ e1)) else none
            | none => none)
          | _ => none)
        else if x == ("repr" : Str) && Δ.g.free x then (match es with
          | [e1] => some (primE pRepr (consA (S.E κ e1) nilA))
          | _ => none)
        else none) else none
def wXE (S : Sem) (κ : Kx) : Expr → Option FE
  | .Call (.Name x _) es [] _ => wCall Δ T S κ x es
  | .Attribute o f _ => if !isCall0 o && (T.mk1.any fun q => q.2 == f) then some (attrX f (S.E κ o)) else none
  | _ => none
def wX : Ext where
  E := wXE Δ T
end
theorem lookup_any {l : List (Str × Str)} {f : Str} (h : (l.any fun q => q.2 == f) = true) : ∃ c, (c, f) ∈ l := by
  obtain ⟨q, h1, h2⟩ := List.any_eq_true.mp h
  exact ⟨q.1, by rw [← eq_of_beq h2]; exact h1⟩
theorem wX_ok {K : PySem.W.Frag} {cl : Str → Option Addr} {Δ : Inf} {k : Nat} {T : ExT} (hX : ∀ X, Δ.g.more X → ExcX cl T X ∧ SysK X.K) (hflds : ∀ c fld, (c, fld) ∈ T.mk1 → ∃ c', T.mk1.lookup c' = some fld) : ExtOk K cl Δ (k + 1) (wX Δ T) where
  e := fun S hS κ X o e f h => by
    obtain ⟨M, SK⟩ := hX X o.more
    replace h : wXE Δ T S κ e = some f := h
    unfold wXE at h
    split at h
    · rename_i x p es pos
      unfold wCall at h
      split at h
      · rename_i hc
        rw [Bool.and_eq_true, Bool.and_eq_true] at hc
        obtain ⟨⟨hd, hg⟩, hst⟩ := hc
        obtain ⟨d1, d2, d3⟩ := dbg_ok hd
        have hA := ok_args hS o es
        split at h
        · rename_i hm
          injection h with h
          subst h
          obtain ⟨A, a1, a2, a3, a4⟩ := M.c0 x (List.contains_iff_mem.mp hm)
          cases es with
          | nil => exact PE.imp (pe_mk00 a4 a3 (o.gl hg) a2 d1) fun σ H Q h => sa_nil σ H _ (se_mk0 a1 σ H Q h)
          | cons e es =>
            rw [List.all_cons, Bool.and_eq_true] at hst
            have hse : isStar e = false := by simpa using hst.1
            exact PE.imp (pe_mk0 a4 a3 (o.gl hg) a2 hA d1 (star_cons hse) (star_any hst.2)) fun σ H Q h => se_mk0 a1 σ H Q h
        · split at h
          · rename_i fld q
            split at h
            · rename_i e1
              injection h with h
              subst h
              obtain ⟨A, ff, cda, cc, par, qual, params, scope, pp, a1, a2, a3, a4, a5⟩ := M.c1 x fld q
              rw [List.all_cons, Bool.and_eq_true] at hst
              have hse : isStar e1 = false := by simpa using hst.1
              exact PE.imp (pe_mk1 a4 a5 o.room a3 M.sup (o.gl hg) a2 (hS.e κ X o e1) d1 (star_cons hse)) fun σ H Q h => se_mk1 a1 σ H Q h
            · cases h
          · split at h
            · rename_i hx
              rw [Bool.and_eq_true] at hx
              have hxe := eq_of_beq hx.1
              subst hxe
              split at h
              · rename_i e1 e2
                split at h
                · rename_i t qt
                  split at h
                  · rename_i ht
                    rw [Bool.and_eq_true, Bool.and_eq_true] at ht
                    obtain ⟨⟨t1, t2⟩, t3⟩ := ht
                    obtain ⟨b1, b2, b3⟩ := dbg_ok t1
                    injection h with h
                    subst h
                    cases e2 with
                    | Name t' pt =>
                      injection qt with qt
                      subst qt
                      obtain ⟨u, v, hv, hn, hk⟩ := M.nm t' (List.contains_iff_mem.mp t3)
                      have pn : PE X (.Name t' pt) (tC v) := by
                        rcases hn with ⟨m1, m2⟩ | ⟨m1, m2, m3⟩
                        · exact pe_glob (o.gl t2) m1 m2 b1
                        · exact pe_bltn (o.gl t2) m1 m2 m3 b3 b1
                      rw [List.all_cons, Bool.and_eq_true] at hst
                      have hse : isStar e1 = false := by simpa using hst.1
                      rw [o.kf] at hk
                      have z := pe_callB (X := X) (p := p) (pos := pos) call_isX (o.gl hg) (o.free _ hx.2) (by decide +kernel) (pa_cons (hS.e κ X o e1) (pa_cons pn pa_nil) (star_cons hse)) d3 d1 (star_cons hse) (star_any hst.2)
                      rw [o.kf] at z
                      exact PE.imp z fun σ H Q h => se_isx hv hk (fun c A hcA => by
                        have y := M.fl c A hcA
                        rw [o.kf] at y
                        exact ⟨y.2.1, y.2.2.1⟩) σ H Q h
                    | _ => cases qt
                  · cases h
                · cases h
              · cases h
            · split at h
              · rename_i hx
                rw [Bool.and_eq_true] at hx
                have hxe := eq_of_beq hx.1
                subst hxe
                split at h
                · rename_i e1
                  injection h with h
                  subst h
                  rw [List.all_cons, Bool.and_eq_true] at hst
                  have hse : isStar e1 = false := by simpa using hst.1
                  have z := pe_callB (X := X) (p := p) (pos := pos) (call_repr o.gd o.room.units SK) (o.gl hg) (o.free _ hx.2) (by decide +kernel) (ok_args hS o [e1]) d3 d1 (star_cons hse) rfl
                  rw [o.kf] at z
                  refine PE.imp z fun σ H Q h => se_prim p_repr σ H Q ?_
                  have ea : argA S κ [e1] = consA (S.E κ e1) nilA := by
                    unfold argA
                    rw [hse]
                    rfl
                  rw [ea]
                  exact h
                · cases h
              · cases h
      · cases h
    · rename_i ob fld pos
      split at h
      · rename_i hc
        rw [Bool.and_eq_true] at hc
        injection h with h
        subst h
        obtain ⟨c, hcf⟩ := lookup_any hc.2
        obtain ⟨c', hc'⟩ := hflds c fld hcf
        have z := pe_xa (X := X) (pos := pos) (f := fld) (hS.e κ X o ob) (attr_no0 (by simpa using hc.1))
        rw [o.kf] at z
        exact PE.imp z fun σ H Q h => se_attrX (fun c A hcA => by
          have y := M.fl c A hcA
          rw [o.kf] at y
          exact ⟨y.1, y.2.2.2 c' fld hc'⟩) σ H Q h
      · cases h
    · cases h
  i := fun _ _ _ _ _ _ _ _ h => (nomatch h)
  s := fun _ _ _ _ _ _ _ h => (nomatch h)
end DL


set_option Elab.async false
set_option linter.all false
set_option maxRecDepth 100000
set_option maxHeartbeats 4000000
/-! WORDS: sep.join(..), {..} -/
namespace DL
open PySem PySem.Spec PyProof.Rows L2
def constK : Expr → Option DK
  | .Constant (.str x) _ _ => some (.str x.cps.toList)
  | .Constant (.int i) _ _ => some (.int i)
  | _ => none
def dkeys : List (Option Expr) → Option (List DK)
  | [] => some []
  | some e :: r => match constK e with
    | some k => match dkeys r with
      | some ks => some (k :: ks)
      | none => none
    | none => none
  | none :: _ => none
def wJE (S : Sem) (κ : Kx) : Expr → Option FE
  | .Call (.Attribute o m apos) es [] pos => if m == ("join" : Str) && !isCall o && (apos.endLine == pos.line) && (es.all fun e => !isStar e) && decide (es.length = 1) then some (bmE "str" pJoin (S.E κ o) (argA S κ es)) else none
  | .Dict keys values _ => match dkeys keys with
    | some ks => if decide (ks.length = values.length) && decide (ks.length ≤ 15) then (if ks.isEmpty then some (fun s => some (.fr (.dct []), s)) else some (dictE (ks.zip (values.map (S.E κ))))) else none
    | none => none
  | _ => none
def wJ : Ext where
  E := wJE
theorem mkS_cps (x : Str) : mkS x.cps.toList = x := by
  obtain ⟨⟨l⟩⟩ := x
  rfl
theorem constK_pe {X : Cx} {e : Expr} {k : DK} (h : constK e = some k) : PE X e (tC (kV k.key)) := by
  unfold constK at h
  split at h
  · rename_i x j p
    injection h with h
    subst h
    have e1 : kV (DK.str x.cps.toList).key = .str x := by
      show V.str (mkS x.cps.toList) = _
      rw [mkS_cps]
    rw [e1]
    exact pe_str
  · injection h with h
    subst h
    exact pe_int
  · cases h
theorem dkeys_pps {K : PySem.W.Frag} {cl : Str → Option Addr} {Δ : Inf} {k : Nat} {S : Sem} {κ : Kx} {X : Cx} (hS : SemOk K cl Δ k S) (o : XOk K cl Δ k κ X) {pos : Pos} : ∀ {keys : List (Option Expr)} {values : List Expr} {ks : List DK}, dkeys keys = some ks → ks.length = values.length →
    PPs X pos keys values ((ks.zip (values.map (S.E κ))).map fun q => (tC (kV q.1.key), tE K cl q.2)) ∧ keys.all (·.isSome) = true ∧ keys.length = ks.length
  | [], values, ks, h, hl => by
    injection h with h
    subst h
    cases values with
    | nil => exact ⟨pps_nil, rfl, rfl⟩
    | cons _ _ => cases hl
  | none :: _, _, _, h, _ => by cases h
  | some e :: r, values, ks, h, hl => by
    unfold dkeys at h
    cases q : constK e with
    | none => rw [q] at h; cases h
    | some k1 =>
      rw [q] at h
      simp only at h
      cases q2 : dkeys r with
      | none => rw [q2] at h; cases h
      | some kr =>
        rw [q2] at h
        injection h with h
        subst h
        cases values with
        | nil => cases hl
        | cons v vs =>
          obtain ⟨h1, h2, h3⟩ := dkeys_pps hS o (pos := pos) q2 (values := vs) (by simpa using hl)
          refine ⟨pps_cons (constK_pe q) (hS.e κ X o v) h1, ?_, ?_⟩
          · rw [List.all_cons, h2]
            rfl
          · rw [List.length_cons, List.length_cons, h3]
theorem wJ_ok {K : PySem.W.Frag} {cl : Str → Option Addr} {Δ : Inf} {k : Nat} : ExtOk K cl Δ k wJ where
  e := fun S hS κ X o e f h => by
    replace h : wJE S κ e = some f := h
    unfold wJE at h
    split at h
    · rename_i ob m apos es pos
      split at h
      · rename_i hc
        injection h with h
        subst h
        simp only [Bool.and_eq_true] at hc
        obtain ⟨⟨⟨⟨h1, h2⟩, h3⟩, h4⟩, h5⟩ := hc
        have hm := eq_of_beq h1
        subst hm
        have hl := of_decide_eq_true h5
        cases es with
        | nil => cases hl
        | cons e1 es =>
          cases es with
          | cons _ _ => cases hl
          | nil =>
            have hse : isStar e1 = false := by
              rw [List.all_cons, Bool.and_eq_true] at h4
              simpa using h4.1
            have z := pe_bm (X := X) (apos := apos) (cpos := pos) PySem.F.plainAttrs_str PySem.F.slot_str_join PySem.F.type_str_join mt_join (hS.e κ X o ob) (ok_args hS o [e1]) (attr_no (by simpa using h2)) (few_ok h4 (by show 1 < 20; decide)) h3 (star_cons hse) (star_any rfl)
            rw [o.kf] at z
            exact PE.imp z fun σ H Q h => se_bm p_join σ H Q h
      · cases h
    · rename_i keys values pos
      split at h
      · rename_i ks q
        split at h
        · rename_i hc
          rw [Bool.and_eq_true] at hc
          have hl := of_decide_eq_true hc.1
          obtain ⟨h1, h2, h3⟩ := dkeys_pps hS o (pos := pos) q hl
          split at h
          · rename_i he
            injection h with h
            subst h
            have hk : ks = [] := by simpa using he
            subst hk
            have hk : keys = [] := List.length_eq_zero_iff.mp h3
            have hv : values = [] := List.length_eq_zero_iff.mp hl.symm
            subst hk
            subst hv
            refine PE.imp pe_dnewK fun σ H Q h => ?_
            obtain ⟨Φ, Hs, s, b, s', T, r, e, kk⟩ := h
            injection e with e
            injection e with e1 e2
            subst e1
            subst e2
            intro p hp
            exact kk _ _ Hs (Ex.refl _) (r.laid hp _) ⟨p, rfl, r.newAt hp ⟨[], upd_same, .nil⟩⟩
          · rename_i he
            injection h with h
            subst h
            have hl2 : keys ≠ [] := fun z => he (by
              rw [z] at h3
              have : ks = [] := List.length_eq_zero_iff.mp h3.symm
              rw [this]
              rfl)
            have h15 := of_decide_eq_true hc.2
            refine PE.imp (pe_disp h1 h2 (by omega) hl2 (by omega)) fun σ H Q h => se_dict ?_ σ H Q h
            rw [List.length_zip, List.length_map]
            omega
        · cases h
      · cases h
    · cases h
  i := fun _ _ _ _ _ _ _ _ h => (nomatch h)
  s := fun _ _ _ _ _ _ _ h => (nomatch h)
end DL


set_option Elab.async false
set_option linter.all false
set_option maxRecDepth 100000
set_option maxHeartbeats 4000000
/-! WORDS: the dice, great ints -/
namespace DL
open PySem PySem.Spec PyProof.Rows L2
def CPowW (i j : Int) : Prop := 0 ≤ j ∧ (Builtin.Int.intBits i : Int) * j ≤ 2 ^ 27
theorem op_powW {X : Cx} : OpR X (binaryOp .Pow) (rI CPowW fun i j => .int (i ^ j.toNat)) := opI fun _ _ _ _ _ _ _ hc q => pow_int hc.1 hc.2 q
def pPowW : List D → Option BV
  | [.int i, .int j] => if decide (0 ≤ j) && decide ((Builtin.Int.intBits i : Int) * j ≤ 2 ^ 27) then some (.st (.int (i ^ j.toNat))) else none
  | _ => none
theorem p_powW {K : PySem.W.Frag} {cl : Str → Option Addr} : POk K cl (r2L (rI CPowW fun i j => .int (i ^ j.toNat))) pPowW := by
  intro Φ Hs s σ H vs ds b T r ho e Q k
  unfold pPowW at e
  split at e
  · split at e
    · rename_i hb
      rw [Bool.and_eq_true] at hb
      injection e with e
      subst e
      obtain ⟨x, y, rfl, h1, h2⟩ := ho.two
      rw [opd_int h1, opd_int h2]
      exact ⟨_, _, rfl, _, _, rfl, rfl, ⟨of_decide_eq_true hb.1, of_decide_eq_true hb.2⟩, fin_st r k (.int _)⟩
    · cases e
  · cases e
def pFdivW : List D → Option BV
  | [.int i, .int j] => if decide (0 < j) && decide (j.natAbs.log2 < 9000) then some (.st (.int (i / j))) else none
  | _ => none
theorem p_fdivW {K : PySem.W.Frag} {cl : Str → Option Addr} : POk K cl (r2L (rI CDivW fun i j => .int (i / j))) pFdivW := by
  intro Φ Hs s σ H vs ds b T r ho e Q k
  unfold pFdivW at e
  split at e
  · split at e
    · rename_i hb
      rw [Bool.and_eq_true] at hb
      injection e with e
      subst e
      obtain ⟨x, y, rfl, h1, h2⟩ := ho.two
      rw [opd_int h1, opd_int h2]
      exact ⟨_, _, rfl, _, _, rfl, rfl, ⟨of_decide_eq_true hb.1, of_decide_eq_true hb.2⟩, fin_st r k (.int _)⟩
    · cases e
  · cases e
/-! ### the dice -/
theorem Rs.dicePut {Φ : Fx} {Hs H : Hp} {s : DS} {σ : L2.St} {a : Addr} {g' : G} (r : Rs Φ Hs s σ H) (h : Φ.C.dl = some a) : Rs Φ Hs { s with g := g' } σ (upd H a (.lst (diceL g'))) where
  ex0 := r.ex0
  ex := fun b o e => by
    have n : b ≠ a := fun z => by
      rw [z, (r.dice a h).1] at e
      cases e
    rw [upd_ne n]
    exact r.ex b o e
  fr := fun b o hb e => by
    have n : b ≠ a := fun z => hb (by rw [z]; exact h.symm)
    rw [upd_ne n]
    exact r.fr b o hb e
  fs := r.fs
  dice := fun b e => by
    have z : b = a := by
      have := e.symm.trans h
      injection this
    subst z
    exact ⟨(r.dice b e).1, upd_same⟩
  len := r.len
  slot := r.slot
  own := fun i x e => by
    obtain ⟨p, e1, e2, e3, e4, e5⟩ := r.own i x e
    have n : p ≠ a := fun z => e4 (by rw [z]; exact h.symm)
    exact ⟨p, e1, e2, e3, e4, e5.mono (Ex.refl _) (upd_ne n)⟩
  inj := r.inj
def diceAt (g : G) : Int → Option Int
  | 0 => some g.l
  | 1 => some g.m
  | 2 => some g.c
  | _ => none
def dicePut (g : G) (x : Int) : Int → Option G
  | 0 => some { g with l := x }
  | 1 => some { g with m := x }
  | 2 => some { g with c := x }
  | _ => none
def diceE (k : Int) (f : FE) : FE := fun s => match f s with
  | some (.st .dice, s1) => match diceAt s1.g k with
    | some x => some (.st (.int x), s1)
    | none => none
  | _ => none
def diceS (k : Int) (f e : FE) : FS := fun s => match e s with
  | some (.st (.int x), s1) => match f s1 with
    | some (.st .dice, s2) => match dicePut s2.g x k with
      | some g' => some (.nx, { s2 with g := g' })
      | none => none
    | _ => none
  | _ => none
def wDE (S : Sem) (κ : Kx) : Expr → Option FE
  | .Subscript (.Name x p) (.Constant (.int k) _ _) _ => if x == ("_law_dice_here" : Str) then some (diceE k (S.E κ (.Name x p))) else none
  | .BinOp a .FloorDiv b _ => some (primE pFdivW (consA (S.E κ a) (consA (S.E κ b) nilA)))
  | .BinOp a .Pow b _ => some (primE pPowW (consA (S.E κ a) (consA (S.E κ b) nilA)))
  | _ => none
def wDS (S : Sem) (κ : Kx) : Stmt → Option FS
  | .Assign [.Subscript (.Name x p) (.Constant (.int k) _ _) _] e _ => if x == ("_law_dice_here" : Str) && !isComp e then some (diceS k (S.E κ (.Name x p)) (S.E κ e)) else none
  | _ => none
def wD : Ext where
  E := wDE
  S := wDS
section
variable {K : PySem.W.Frag} {cl : Str → Option Addr}
theorem rep_dice {Φ : Fx} {Hs : Hp} {v : V} (h : Rep Φ.C Hs v .dice) : ∃ a, v = .ref a ∧ Φ.C.dl = some a := by
  cases h with
  | dice h => exact ⟨_, rfl, h⟩
theorem atI_dice {g : G} {k x : Int} (h : diceAt g k = some x) : atI (diceL g) k = some (.int x) := by
  unfold diceAt at h
  split at h
  · injection h with h
    subst h
    rfl
  · injection h with h
    subst h
    rfl
  · injection h with h
    subst h
    rfl
  · cases h
theorem ix_dice {g g' : G} {k x : Int} (h : dicePut g x k = some g') : ∃ j, ixN (diceL g).length k = some j ∧ (diceL g).set j (.int x) = diceL g' := by
  unfold dicePut at h
  split at h
  · injection h with h
    subst h
    exact ⟨0, rfl, rfl⟩
  · injection h with h
    subst h
    exact ⟨1, rfl, rfl⟩
  · injection h with h
    subst h
    exact ⟨2, rfl, rfl⟩
  · cases h
theorem se_diceE {k : Int} {f : FE} (σ : L2.St) (H : Hp) (Q : VK) (h : tE K cl (diceE k f) σ H Q) : tOp (rIx K) (tE K cl f) (tC (.int k)) σ H Q := by
  obtain ⟨Φ, Hs, s, b, s', T, r, e, kk⟩ := h
  unfold diceE at e
  split at e
  · rename_i s1 q
    split at e
    · rename_i x qx
      injection e with e
      injection e with e1 e2
      subst e1
      subst e2
      refine ⟨Φ, Hs, s, _, _, T, r, q, fun v H1 Hs1 x1 r1 h1 => ?_⟩
      obtain ⟨a, rfl, hd⟩ := rep_dice h1
      exact .inl ⟨_, _, _, _, rfl, rfl, SqL.of (r1.dice a hd).2, atI_dice qx, kk _ H1 Hs1 x1 r1 (.int x)⟩
    · cases e
  · cases e
theorem ss_diceS {k : Int} {f e : FE} (D : Ends) (σ : L2.St) (H : Hp) (h : tS K cl (diceS k f e) D σ H) : tAsg (tE K cl e) (gSub (tE K cl f) (tC (.int k)) rSetL) D σ H := by
  obtain ⟨Φ, Hs, s, o, s', T, r, e, kk⟩ := h
  unfold diceS at e
  split at e
  · rename_i x s1 q
    split at e
    · rename_i s2 q2
      split at e
      · rename_i g' qg
        injection e with e
        injection e with e1 e2
        subst e1
        subst e2
        refine ⟨Φ, Hs, s, _, _, T, r, q, fun v H1 Hs1 x1 r1 h1 => ?_⟩
        have h1 : Rep Φ.C Hs1 v (.int x) := h1
        cases h1
        refine ⟨Φ, Hs1, s1, _, _, T, r1, q2, fun v2 H2 Hs2 x2 r2 h2 => ?_⟩
        obtain ⟨a, rfl, hd⟩ := rep_dice h2
        obtain ⟨j, hj, hs⟩ := ix_dice qg
        refine ⟨a, diceL s2.g, k, j, rfl, rfl, (r2.dice a hd).2, hj, ?_⟩
        rw [hs]
        exact kk σ _ Hs2 (x1.trans x2) (r2.dicePut hd)
      · cases e
    · cases e
  · cases e
end
theorem wD_ok {K : PySem.W.Frag} {cl : Str → Option Addr} {Δ : Inf} {k : Nat} : ExtOk K cl Δ k wD where
  e := fun S hS κ X o e f h => by
    replace h : wDE S κ e = some f := h
    unfold wDE at h
    split at h
    · rename_i x p kk j p2 pos
      split at h
      · injection h with h
        subst h
        have z := ix_seq (X := X)
        rw [o.kf] at z
        exact PE.imp (pe_ix z (hS.e κ X o _) pe_int (sub_no rfl)) fun σ H Q h => se_diceE σ H Q h
      · cases h
    · injection h with h
      subst h
      exact PE.imp (pe_op op_fdivW (hS.e κ X o _) (hS.e κ X o _)) fun σ H Q h => se_op p_fdivW σ H Q h
    · injection h with h
      subst h
      exact PE.imp (pe_op op_powW (hS.e κ X o _) (hS.e κ X o _)) fun σ H Q h => se_op p_powW σ H Q h
    · cases h
  i := fun _ _ _ _ _ _ _ _ h => (nomatch h)
  s := fun S hS κ X o st f h => by
    replace h : wDS S κ st = some f := h
    unfold wDS at h
    split at h
    · rename_i x p kk j p2 p3 e pos
      split at h
      · rename_i hc
        rw [Bool.and_eq_true] at hc
        injection h with h
        subst h
        have hg : PG X (.Subscript (.Name x p) (.Constant (.int kk) j p2) p3) (gSub (tE K cl (S.E κ (.Name x p))) (tC (.int kk)) rSetL) := pg_sub (hS.e κ X o _) pe_int set_list (fun v => rfl)
        exact PS.imp (ps_asg (hS.e κ X o e) hg (sole_no (by simpa using hc.2)) (by cases e <;> rfl) rfl) fun D σ H h => ss_diceS D σ H h
      · cases h
    · cases h
end DL


set_option Elab.async false
set_option linter.all false
set_option maxRecDepth 100000
set_option maxHeartbeats 4000000
/-! WORDS: a call with dice that are a list of one's own -/
namespace DL
open PySem PySem.Spec PyProof.Rows L2
def gOf : D → Option G
  | .lst [.int l, .int m, .int c] => some ⟨l, m, c⟩
  | _ => none
def dOf (g : G) : D := .lst [.int g.l, .int g.m, .int g.c]
def dcallE (den : Den) (f : FE) : FE := fun s => match f s with
  | some (.ow i, s1) => match s1.ρ[i]? with
    | some (some (.own x)) => match gOf x with
      | some g => match den [.dice] g with
        | some (b, g') => if isSc b then some (b, { s1 with ρ := s1.ρ.set i (some (.own (dOf g'))) }) else none
        | none => none
      | none => none
    | _ => none
  | some (.fr x, s1) => match gOf x with
    | some g => match den [.dice] g with
      | some (b, _) => if isSc b then some (b, s1) else none
      | none => none
    | none => none
  | _ => none
theorem gOf_inv {x : D} {g : G} (h : gOf x = some g) : x = dOf g := by
  unfold gOf at h
  split at h
  · injection h with h
    subst h
    rfl
  · cases h
theorem own_dice {C : Ctx} {Hs H : Hp} {p : Addr} {g : G} (h : OwnAt C Hs H p (dOf g)) : H p = some (.lst (diceL g)) := by
  obtain ⟨xs, h1, h2⟩ := h
  cases h2 with
  | cons a h2 =>
    cases h2 with
    | cons b h2 =>
      cases h2 with
      | cons c h2 =>
        cases h2
        cases a
        cases b
        cases c
        exact h1
theorem dice_own {C : Ctx} {Hs H : Hp} {p : Addr} {g : G} (h : H p = some (.lst (diceL g))) : OwnAt C Hs H p (dOf g) := ⟨_, h, .cons (.int _) (.cons (.int _) (.cons (.int _) .nil))⟩
section
variable {Φ : Fx} {Hs Hs' H H' : Hp} {s : DS} {σ : L2.St} {p : Addr} {g' : G}
/-- behind a call that had the object at p as its dice, p no slot's -/
theorem Rs.dfresh (r : Rs Φ Hs s σ H) (hf : Φ.Hf p = none) (hd : some p ≠ Φ.C.dl) (sep : ∀ (i : Nat) (y : D), s.ρ[i]? = some (some (.own y)) → σ[i]? ≠ some (some (.ref p))) (x : Ex Hs Hs') (xe : Ex Hs' H')
    (k : ∀ a o, some a ≠ some p → H a = some o → H' a = some o) : Rs Φ Hs s σ H' where
  ex0 := r.ex0
  ex := x.trans xe
  fr := fun a o ha e => k a o (fun z => by
    injection z with z
    rw [z, hf] at e
    cases e) (r.fr a o ha e)
  fs := r.fs
  dice := fun a e => ⟨(r.dice a e).1, k a _ (fun z => hd (by rw [← z]; exact e.symm)) (r.dice a e).2⟩
  len := r.len
  slot := r.slot
  own := fun i y e => by
    obtain ⟨q, e1, e2, e3, e4, e5⟩ := r.own i y e
    have n : q ≠ p := fun z => sep i y e (by rw [← z]; exact e1)
    obtain ⟨o, eo⟩ := e5.there
    refine ⟨q, e1, e2, e3, e4, e5.mono (Ex.refl _) ?_⟩
    rw [eo]
    exact k q o (fun z => n (by injection z)) eo
  inj := r.inj
/-- the same, p the slot i's -/
theorem Rs.dslot {i : Nat} {y : D} (r : Rs Φ Hs s σ H) (e : s.ρ[i]? = some (some (.own y))) (hp : σ[i]? = some (some (.ref p))) (x : Ex Hs Hs') (xe : Ex Hs' H')
    (k : ∀ a o, some a ≠ some p → H a = some o → H' a = some o) (hl : H' p = some (.lst (diceL g'))) : Rs Φ Hs { s with ρ := s.ρ.set i (some (.own (dOf g'))) } σ H' := by
  obtain ⟨q0, w1, w2, w3, w4, w5⟩ := r.own i y e
  have hq : q0 = p := by
    have := w1.symm.trans hp
    injection this with this
    injection this with this
    injection this
  rw [hq] at w1 w2 w3 w4 w5
  have il : i < s.ρ.length := (List.getElem?_eq_some_iff.mp e).1
  have old : ∀ (j : Nat) (z : D), (s.ρ.set i (some (.own (dOf g'))))[j]? = some (some (.own z)) → (j = i ∧ z = dOf g') ∨ (j ≠ i ∧ s.ρ[j]? = some (some (.own z))) := fun j z h => by
    by_cases c : i = j
    · subst c
      rw [List.getElem?_set_self il] at h
      injection h with h
      injection h with h
      injection h with h
      exact .inl ⟨rfl, h.symm⟩
    · rw [List.getElem?_set_ne c] at h
      exact .inr ⟨fun w => c w.symm, h⟩
  exact
  { ex0 := r.ex0
    ex := x.trans xe
    fr := fun a o ha e => k a o (fun z => by
      injection z with z
      rw [z, w3] at e
      cases e) (r.fr a o ha e)
    fs := r.fs
    dice := fun a e => ⟨(r.dice a e).1, k a _ (fun z => w4 (by rw [← z]; exact e.symm)) (r.dice a e).2⟩
    len := by
      show (s.ρ.set i _).length = _
      rw [List.length_set]
      exact r.len
    slot := fun j z h => by
      have h : (s.ρ.set i (some (.own (dOf g'))))[j]? = some (some (.d z)) := h
      by_cases c : i = j
      · subst c
        rw [List.getElem?_set_self il] at h
        cases h
      · rw [List.getElem?_set_ne c] at h
        exact r.slot j z h
    own := fun j z h => by
      rcases old j z h with ⟨c1, c2⟩ | ⟨c1, c2⟩
      · subst c1
        subst c2
        exact ⟨_, w1, w2, w3, w4, dice_own hl⟩
      · obtain ⟨q, e1, e2, e3, e4, e5⟩ := r.own j z c2
        have n : q ≠ p := fun w => c1 (r.inj j i z y p c2 e (by rw [← w]; exact e1) w1)
        obtain ⟨o, eo⟩ := e5.there
        refine ⟨q, e1, e2, e3, e4, e5.mono (Ex.refl _) ?_⟩
        rw [eo]
        exact k q o (fun w => n (by injection w)) eo
    inj := fun j l z1 z2 q h1 h2 h3 h4 => by
      rcases old j z1 h1 with ⟨c1, _⟩ | ⟨c1, c2⟩
      · rcases old l z2 h2 with ⟨b1, _⟩ | ⟨b1, b2⟩
        · rw [c1, b1]
        · subst c1
          exact r.inj j l y z2 q e b2 h3 h4
      · rcases old l z2 h2 with ⟨b1, _⟩ | ⟨b1, b2⟩
        · subst b1
          exact r.inj j l z1 y q c2 e h3 h4
        · exact r.inj j l z1 z2 q c2 b2 h3 h4 }
end
section
variable {K : PySem.W.Frag} {cl : Str → Option Addr}
theorem se_dcall {den : Den} {f : FE} (σ : L2.St) (H : Hp) (Q : VK) (h : tE K cl (dcallE den f) σ H Q) : tCallG (SpD K cl 1 den) E0 (tCons (tE K cl f) tNil) σ H Q := by
  obtain ⟨Φ, Hs, s, b, s', T, r, e, kk⟩ := h
  unfold dcallE at e
  split at e
  · rename_i i s1 q
    split at e
    · rename_i x qx
      split at e
      · rename_i g qg
        split at e
        · rename_i b1 g' qd
          split at e
          · rename_i hs
            injection e with e
            injection e with e1 e2
            subst e1
            subst e2
            have hx := gOf_inv qg
            subst hx
            refine ⟨Φ, Hs, s, _, _, T, r, q, fun v H1 Hs1 x1 r1 h1 => ?_⟩
            obtain ⟨p, w1, w2, w3, w4, w5⟩ := r1.own i _ qx
            have hv : v = .ref p := by
              have := h1.1.symm.trans w1
              injection this with this
              injection this
            subst hv
            refine ⟨{ Φ.C with dl := some p }, g, [.dice], Hs1, b1, g', T.k, T.c, r1.ex, fun a ha => ?_, .cons (.dice rfl) .nil, rfl, qd, fun v H' Hs' x2 xe k1 k2 dd rc => ?_⟩
            · injection ha with ha
              subst ha
              exact ⟨w2, own_dice w5⟩
            · obtain ⟨d, rfl, hd⟩ := sc_rep (Hs := Hs1) hs rc
              refine kk v H' Hs1 x1 (r1.dslot qx w1 x2 xe k1 (dd p rfl).2) ?_
              show Rep Φ.C Hs1 v d
              obtain ⟨d', e', hd'⟩ := sc_rep (C := Φ.C) (Hs := Hs1) (Hs' := Hs') (H := H1) (H' := H') (v := v) hs (by
                cases d <;> first | (cases rc; first | exact Rep.non | exact Rep.bl _ | exact Rep.int _ | exact Rep.str _) | cases hs)
              injection e' with e'
              subst e'
              exact hd'
          · cases e
        · cases e
      · cases e
    · cases e
  · rename_i x s1 q
    split at e
    · rename_i g qg
      split at e
      · rename_i b1 g' qd
        split at e
        · rename_i hs
          injection e with e
          injection e with e1 e2
          subst e1
          subst e2
          have hx := gOf_inv qg
          subst hx
          refine ⟨Φ, Hs, s, _, _, T, r, q, fun v H1 Hs1 x1 r1 h1 => ?_⟩
          obtain ⟨p, rfl, fa⟩ := h1
          refine ⟨{ Φ.C with dl := some p }, g, [.dice], Hs1, b1, g', T.k, T.c, r1.ex, fun a ha => ?_, .cons (.dice rfl) .nil, rfl, qd, fun v H' Hs' x2 xe k1 k2 dd rc => ?_⟩
          · injection ha with ha
            subst ha
            exact ⟨fa.hs, own_dice fa.at_⟩
          · refine kk v H' Hs1 x1 (r1.dfresh fa.hf fa.dl fa.sep x2 xe k1) ?_
            obtain ⟨d, rfl, hd⟩ := sc_rep (Hs := Hs1) hs rc
            show Rep Φ.C Hs1 v d
            obtain ⟨d', e', hd'⟩ := sc_rep (C := Φ.C) (Hs := Hs1) (Hs' := Hs') (H := H1) (H' := H') (v := v) hs (by
              cases d <;> first | (cases rc; first | exact Rep.non | exact Rep.bl _ | exact Rep.int _ | exact Rep.str _) | cases hs)
            injection e' with e'
            subst e'
            exact hd'
        · cases e
      · cases e
    · cases e
  · cases e
end
/-! ### the word -/
def wCE (Δ : Inf) (ns : List Str) (S : Sem) (κ : Kx) : Expr → Option FE
  | .Call (.Name x _) [e1] [] _ => if dbgOk x && glB κ.sc x && !isStar e1 && ns.contains x then (match Δ.g.fn x with
    | some (1, den) => some (dcallE den (S.E κ e1))
    | _ => none) else none
  | _ => none
def wC (Δ : Inf) (ns : List Str) : Ext where
  E := wCE Δ ns
theorem wC_ok {K : PySem.W.Frag} {cl : Str → Option Addr} {Δ : Inf} {k : Nat} {ns : List Str} : ExtOk K cl Δ k (wC Δ ns) where
  e := fun S hS κ X o e f h => by
    replace h : wCE Δ ns S κ e = some f := h
    unfold wCE at h
    split at h
    · rename_i x p e1 pos
      split at h
      · rename_i hc
        simp only [Bool.and_eq_true] at hc
        obtain ⟨⟨⟨hd, hg⟩, hst⟩, _⟩ := hc
        obtain ⟨d1, d2, d3⟩ := dbg_ok hd
        have hse : isStar e1 = false := by simpa using hst
        split at h
        · rename_i den q
          injection h with h
          subst h
          obtain ⟨f, fd, ps, m1, m2, m3, m4, m5⟩ := o.fn x 1 den q
          rw [← o.kf] at m2 m3 m5
          have z := pe_callG (p := p) (pos := pos) m5 o.room o.gd (o.gl hg) m1 m2 m3 (pass0) (pa_cons (hS.e κ X o e1) pa_nil (star_cons hse)) d1 (star_cons hse) rfl
          rw [o.kf] at z
          exact PE.imp z fun σ H Q h => se_dcall σ H Q h
        · cases h
      · cases h
    · cases h
  i := fun _ _ _ _ _ _ _ _ h => (nomatch h)
  s := fun _ _ _ _ _ _ _ h => (nomatch h)
end DL


set_option Elab.async false
set_option linter.all false
set_option maxRecDepth 100000
set_option maxHeartbeats 4000000
/-! THE HEAD'S FACTS: defs, the classes of exceptions, read by a Hook -/
namespace DL
open PySem PySem.Spec PyProof.Rows L2
abbrev IniW : Type := Option (Str × Str × Arguments × FuncBody × Scope × Addr × Addr)
def iniW (K : PySem.W.Frag) (f : Addr) : IniW := match K.lookup f with
  | some ⟨_, _, .func fd, _⟩ => some (fd.name, fd.qualname, fd.params, fd.body, fd.scope, fd.globals, fd.builtins)
  | _ => none
/-- an own class with such an __init__: its name, the field, its def, the maker, the rest of the mro from the first built-in on, the built-in whose __init__ is called -/
structure IniD where
  c : Str
  fld : Str
  st : Stmt
  nid : String
  bmB : List Value
  bi : String
  i : String
def IniD.qual (d : IniD) : Str := d.c ++ ".__init__"
def IniD.val (d : IniD) : IniW := some ("__init__", d.qual, defArgs d.st, .stmts (defBody d.st), defScope d.st, mainGlobals, builtinsNs)
def iniAt (K : PySem.W.Frag) (c : Str) : Addr := He.ma K (He.ga K c) "__init__"
def iniB (K : PySem.W.Frag) (file : Str) (C f : Addr) (qual : Str) : Bool := match K.lookup f with
  | some ⟨_, _, .func fd, _⟩ => (match fd.closure, fd.code, fd.defaults with
    | [(n, cc)], .ref cda, .none => n == ("__class__" : Str) && (match K.lookup cc with
        | some ⟨_, _, .cell (some (.ref D)), _⟩ => D == C
        | _ => false) && PySem.W.codeIn K (.ref cda) qual && (match K.lookup cda with
        | some ⟨_, _, .fields vs, _⟩ => (match (vs[2]? : Option Value) with
          | some (.str fl _) => file == fl
          | _ => false)
        | _ => false)
    | _, _, _ => false)
  | _ => false
def suB (K : PySem.W.Frag) (C : Addr) (nid : String) (bmB : List Value) : Bool := match K.lookup C with
  | some ⟨.type "type", _, .cls cd, sl⟩ => (match cd.mro, sl.toList with
    | .ref C' :: bm, [_, _, _, _, some (.builtin n), _] => C' == C && n == nid && !cd.hasDel && cd.hasDict && PySem.W.excTail bmB bm
    | _, _ => false)
  | _ => false
def eqB (a b : Option Bool) : Bool := decide (a = b)
def iniOk (K : PySem.W.Frag) (file : Str) (d : IniD) : Bool :=
  let C := He.ga K d.c
  let f := iniAt K d.c
  suB K C d.nid d.bmB && eqB (PySem.W.mroIn K C (.type "object")) (some true) && eqB (PySem.W.mroIn K C (.ref C)) (some true) && He.eqO (PySem.W.ks_superIn K C C "__init__") (some (some (.builtin d.i))) &&
    eqB (PySem.W.subIn K (.ref C) (.type d.bi)) (some true) && He.eqO (PySem.W.findIn K (.ref C) "__init__") (some (some (.ref f))) && decide (PySem.W.typeIn K (.ref f) = some (.type "function")) &&
    He.eqO (PySem.W.findIn K (.ref C) "__setattr__") (some (some (.builtin "object.__setattr__"))) && He.eqO (PySem.W.findIn K (.ref C) d.fld) (some none) && PySem.W.keepIn K (.ref C) && iniB K file C f d.qual
def plOk (K : PySem.W.Frag) (c : Str) : Bool :=
  let C := He.ga K c
  PySem.W.excInitIn K C He.veBase "ValueError.__new__" && He.eqO (PySem.W.findIn K (.ref C) "__init__") (some (some (.builtin "ValueError.__init__"))) && PySem.W.keepIn K (.ref C)
def excB (K : PySem.W.Frag) (C : Addr) : Bool :=
  He.eqO (PySem.W.findIn K (.ref C) "__getattribute__") (some (some (.builtin "BaseException.__getattribute__"))) && He.eqO (PySem.W.findIn K (.ref C) "__getattr__") (some none) && eqB (PySem.W.subIn K (.ref C) (.type "BaseException")) (some true) &&
    PySem.W.hasDictIn K C && He.eqO (PySem.W.findIn K (.ref C) "__class__") (some (some (.builtin "object.__class__"))) && He.eqO (PySem.W.specialIn K (.builtin "object.__class__") "__get__") (some (some (.builtin "getset_descriptor.__get__"))) &&
    eqB (PySem.W.takesIn K (.builtin "object.__class__")) (some true) && eqB (PySem.W.mroIn K C (.type "object")) (some true) && (PySem.W.clsIn K C).isSome
/-- the classes of exceptions of a program -/
structure ExD where
  mk0 : List Str
  mk1 : List IniD
  own : List Str
  blt : List (Str × String)
  isx : Str → Str → Option Bool
def ExD.all (d : ExD) : List Str := d.mk0 ++ d.mk1.map (·.c)
def ExD.tab (d : ExD) : ExT := ⟨d.mk0, d.mk1.map fun q => (q.c, q.fld), d.own ++ d.blt.map (·.1), d.isx⟩
def gloB (K : PySem.W.Frag) (c : Str) : Bool := (He.Fa.glo c).ok K
def exOk (K : PySem.W.Frag) (file : Str) (d : ExD) : Bool :=
  d.mk0.all (plOk K) && d.mk1.all (iniOk K file) && (d.all ++ d.own).all (gloB K) && d.all.all (fun c => excB K (He.ga K c) && d.mk1.all fun q => He.eqO (PySem.W.findIn K (.ref (He.ga K c)) q.fld) (some none)) &&
    d.own.all (fun t => d.all.all fun c => eqB (PySem.W.kitOne K (.ref (He.ga K c)) (.ref (He.ga K t))) (d.isx c t)) &&
    d.blt.all (fun t => (He.Fa.free t.1).ok K && d.all.all fun c => eqB (PySem.W.kitOne K (.ref (He.ga K c)) (.type t.2)) (d.isx c t.1)) &&
    (He.Fa.free "super").ok K && He.eqO (PySem.W.nsIn K cStatics "thirdparty.any") (some none) && (K.lookup sysModules).isSome
/-! ### the Hook -/
abbrev AlX : Type := He.AlD × List IniW × Bool
def obsX (fa : List He.Fa) (fn : List He.DefD) (x : ExD) (file : Str) (K : PySem.W.Frag) : AlX := (He.obsD fa fn K, x.mk1.map fun d => iniW K (iniAt K d.c), exOk K file x)
def valX (fn : List He.DefD) (x : ExD) : AlX := (He.valD fn, x.mk1.map IniD.val, true)
def SaysX (fa : List He.Fa) (fn : List He.DefD) (x : ExD) (file : Str) (K : PySem.W.Frag) : Prop := obsX fa fn x file K = valX fn x
def frX (g : Addr → Option Obj) (n : Nat) : PySem.W.Frag := He.frG g (He.asD g n ++ [cStatics, sysModules])
def obsXG (n : Nat) (fa : List He.Fa) (fn : List He.DefD) (x : ExD) (file : Str) (g : Addr → Option Obj) : AlX := obsX fa fn x file (frX g n)
def hookX (n : Nat) (fa : List He.Fa) (fn : List He.DefD) (x : ExD) (file : Str) : PySem.W.Hook where
  α := AlX
  obs := fun s => obsXG n fa fn x file s.heap.get?
  val := fun _ => valX fn x
  says := fun _ h => ∃ K : PySem.W.Frag, K.In h ∧ SaysX fa fn x file K
  of := fun _ _ e => ⟨_, He.frG_in, e⟩
  keeps := fun _ _ _ ⟨K, hK, c⟩ k => ⟨K, PySem.W.Frag.In.keeps hK k, c⟩
theorem obsXG_eq {n : Nat} {fa : List He.Fa} {fn : List He.DefD} {x : ExD} {file : Str} {g : Addr → Option Obj} {s : Shared} (h : ∀ a, g a = s.heap.get? a) : obsXG n fa fn x file g = (hookX n fa fn x file).obs s := by
  have e : g = s.heap.get? := funext h
  rw [e]
  rfl
section
variable {fa : List He.Fa} {fn : List He.DefD} {x : ExD} {file : Str} {K : PySem.W.Frag}
theorem SaysX.d (c : SaysX fa fn x file K) : He.SaysD fa fn K := congrArg (fun z : AlX => z.1) c
theorem SaysX.ini (c : SaysX fa fn x file K) : (x.mk1.map fun d => iniW K (iniAt K d.c)) = x.mk1.map IniD.val := congrArg (fun z : AlX => z.2.1) c
theorem SaysX.ok (c : SaysX fa fn x file K) : exOk K file x = true := congrArg (fun z : AlX => z.2.2) c
end
end DL


set_option Elab.async false
set_option linter.all false
set_option maxRecDepth 100000
set_option maxHeartbeats 4000000
/-! THE HEAD'S FACTS, decoded -/
namespace DL
open PySem PySem.Spec PyProof.Rows L2
/-- what the text alone says of such an __init__ -/
structure IniS (prog : Program) (d : IniD) : Prop where
  ini : IniF d.bi d.i
  mkr : ∃ B iid bm0, ExcBaseFacts B d.nid iid bm0 ∧ Tl B d.bmB
  pas : ∀ self, refuseLoop self "__setattr__" d.bmB = pure ()
  body : ∃ par p, defBody d.st = iniBody par d.fld p ∧ (∃ ar, ((defArgs d.st).posonlyargs ++ (defArgs d.st).args).head? = some ar ∧ ar.arg = "self") ∧
    (∀ kV doc pm an ct cda cc (a b : Value), bindArgs (PySem.W.ksFn "__init__" d.qual (defArgs d.st) (iniBody par d.fld p) (defScope d.st) .none kV doc pm an (.ref cda) ct cc) ⟨[a, b], []⟩ = pure [(("self" : Str), a), (par, b)]) ∧
    (defScope d.st).names.lookup par = some .local ∧ ((p 2).endLine == (p 4).line) = true ∧ (par == ("self" : Str)) = false ∧ (par == ("__debug__" : Str)) = false
  s1 : (defScope d.st).names.lookup ("super" : Str) = some .globalImplicit
  s2 : (defScope d.st).names.lookup ("__class__" : Str) = some .free
  s3 : (defScope d.st).names.lookup ("self" : Str) = some .local
  s5 : (defScope d.st).kind = .function
  s6 : (defScope d.st).isCoroutine = false
  s7 : (defScope d.st).isGenerator = false
  s8 : ∀ x ∈ (defScope d.st).names, x.2 ≠ .cell
  top : (prog.main.scope.names.lookup ("super" : Str)).isSome = false
def clOf (K : PySem.W.Frag) (x : ExD) : Str → Option Addr := fun c => if x.all.contains c then some (He.ga K c) else none
theorem clOf_some {K : PySem.W.Frag} {x : ExD} {c : Str} (h : c ∈ x.all) : clOf K x c = some (He.ga K c) := by
  unfold clOf
  rw [if_pos (List.contains_iff_mem.mpr h)]
theorem clOf_inv {K : PySem.W.Frag} {x : ExD} {c : Str} {A : Addr} (h : clOf K x c = some A) : c ∈ x.all ∧ A = He.ga K c := by
  unfold clOf at h
  split at h
  · rename_i z
    injection h with h
    exact ⟨List.contains_iff_mem.mp z, h.symm⟩
  · cases h
theorem eqB_ok {a b : Option Bool} (h : eqB a b = true) : a = b := of_decide_eq_true h
theorem tail_ex {bmB bm : List Value} (h : PySem.W.excTail bmB bm = true) {B : String} (t : Tl B bmB) : Tl B bm :=
  ⟨(PySem.W.excTail_contains B bm h).trans t.b, (PySem.W.excTail_contains _ bm h).trans t.a, (PySem.W.excTail_contains _ bm h).trans t.n⟩
theorem suB_ok {K : PySem.W.Frag} {C : Addr} {nid : String} {bmB : List Value} (h : suB K C nid bmB = true) : ∃ nm qn N bs bm sn sub ab col dd k0 k1 k2 k3 k5, K.lookup C = some (excClassObj nm qn C N bs bm true sn sub ab col dd k0 k1 k2 k3 k5 nid) ∧ PySem.W.excTail bmB bm = true := by
  unfold suB at h
  split at h
  · rename_i dd cd sl ho
    split at h
    · rename_i C' bm k0 k1 k2 k3 n k5 hm hs
      simp only [Bool.and_eq_true, beq_iff_eq, Bool.not_eq_true'] at h
      obtain ⟨⟨⟨⟨h1, h2⟩, h3⟩, h4⟩, h5⟩ := h
      subst h1
      subst h2
      obtain ⟨nm, bs, mro, ns, qn, hd, sn, sub, ab, col, del⟩ := cd
      dsimp only at hm h3 h4
      subst hm
      subst h3
      subst h4
      have e : sl = #[k0, k1, k2, k3, some (.builtin n), k5] := by
        obtain ⟨l⟩ := sl
        simp only at hs
        rw [hs]
      subst e
      exact ⟨nm, qn, ns, bs, bm, sn, sub, ab, col, dd, k0, k1, k2, k3, k5, ho, h5⟩
    · cases h
  · cases h
theorem iniB_ok {K : PySem.W.Frag} {file : Str} {C f : Addr} {qual name : Str} {params : Arguments} {body : List Stmt} {scope : Scope} (h : iniB K file C f qual = true) (e : iniW K f = some (name, qual, params, .stmts body, scope, mainGlobals, builtinsNs)) :
    ∃ cda cc, (∃ oc od osl kV doc pm an ct, K.lookup f = some ⟨oc, od, .func (PySem.W.ksFn name qual params body scope .none kV doc pm an (.ref cda) ct cc), osl⟩) ∧ PySem.W.codeIn K (.ref cda) qual = true ∧
      (∃ ccl cdd vs ccs fl tf, K.lookup cda = some ⟨ccl, cdd, .fields vs, ccs⟩ ∧ vs[2]? = some (.str fl tf) ∧ (file == fl) = true) ∧ ∃ cl cld csl, K.lookup cc = some ⟨cl, cld, .cell (some (.ref C)), csl⟩ := by
  unfold iniB at h
  unfold iniW at e
  split at h
  · rename_i oc od fd osl ho
    rw [ho] at e
    injection e with e
    obtain ⟨nm, qn, pr, bd, sc, gl, cls, df, kd, dc, pm, an, cd, ct, bl⟩ := fd
    injection e with e1 e
    injection e with e2 e
    injection e with e3 e
    injection e with e4 e
    injection e with e5 e
    injection e with e6 e7
    dsimp only at e1 e2 e3 e4 e5 e6 e7
    subst e1 e2 e3 e4 e5 e6 e7
    split at h
    · rename_i n cc cda q1 q2 q3
      dsimp only at q1 q2 q3
      subst q1 q2 q3
      simp only [Bool.and_eq_true] at h
      obtain ⟨⟨⟨h1, h2⟩, h3⟩, h4⟩ := h
      have hn := eq_of_beq h1
      subst hn
      refine ⟨cda, cc, ⟨oc, od, osl, _, _, _, _, _, ho⟩, h3, ?_, ?_⟩
      · split at h4
        · rename_i ccl cdd vs ccs hc
          split at h4
          · rename_i fl tf hv
            exact ⟨ccl, cdd, vs, ccs, fl, tf, hc, hv, h4⟩
          · cases h4
        · cases h4
      · split at h2
        · rename_i cl cld D csl hc
          have hD := eq_of_beq h2
          subst hD
          exact ⟨cl, cld, csl, hc⟩
        · cases h2
    · cases h
  · cases h
end DL


set_option Elab.async false
set_option linter.all false
set_option maxRecDepth 100000
set_option maxHeartbeats 4000000
/-! THE HEAD'S FACTS: the classes of exceptions, as the words want them -/
namespace DL
open PySem PySem.Spec PyProof.Rows L2
theorem all_of {α : Type} {l : List α} {p : α → Bool} (h : l.all p = true) {a : α} (ha : a ∈ l) : p a = true := List.all_eq_true.mp h a ha
structure ExF (K : PySem.W.Frag) (file : Str) (x : ExD) : Prop where
  pl : ∀ c ∈ x.mk0, plOk K c = true
  ini : ∀ d ∈ x.mk1, iniOk K file d = true
  glo : ∀ c ∈ x.all ++ x.own, gloB K c = true
  exc : ∀ c ∈ x.all, excB K (He.ga K c) = true
  fld : ∀ c ∈ x.all, ∀ d ∈ x.mk1, PySem.W.findIn K (.ref (He.ga K c)) d.fld = some none
  own : ∀ t ∈ x.own, ∀ c ∈ x.all, PySem.W.kitOne K (.ref (He.ga K c)) (.ref (He.ga K t)) = x.isx c t
  blt : ∀ t ∈ x.blt, (He.Fa.free t.1).ok K = true ∧ ∀ c ∈ x.all, PySem.W.kitOne K (.ref (He.ga K c)) (.type t.2) = x.isx c t.1
  sup : (He.Fa.free "super").ok K = true
  opq : PySem.W.nsIn K cStatics "thirdparty.any" = some none
  sys : (K.lookup sysModules).isSome = true
theorem exF_of {K : PySem.W.Frag} {file : Str} {x : ExD} (h : exOk K file x = true) : ExF K file x := by
  unfold exOk at h
  simp only [Bool.and_eq_true] at h
  obtain ⟨⟨⟨⟨⟨⟨⟨⟨h1, h2⟩, h3⟩, h4⟩, h5⟩, h6⟩, h7⟩, h8⟩, h9⟩ := h
  have h4' : ∀ c ∈ x.all, excB K (He.ga K c) = true ∧ (x.mk1.all fun q => He.eqO (PySem.W.findIn K (.ref (He.ga K c)) q.fld) (some none)) = true := fun c hc => by
    have z := all_of h4 hc
    rw [Bool.and_eq_true] at z
    exact z
  exact
  { pl := fun c hc => all_of h1 hc
    ini := fun d hd => all_of h2 hd
    glo := fun c hc => all_of h3 hc
    exc := fun c hc => (h4' c hc).1
    fld := fun c hc d hd => He.eqO_ok (all_of (h4' c hc).2 hd)
    own := fun t ht c hc => eqB_ok (all_of (all_of h5 ht) hc)
    blt := fun t ht => by
      have z := all_of h6 ht
      rw [Bool.and_eq_true] at z
      exact ⟨z.1, fun c hc => eqB_ok (all_of z.2 hc)⟩
    sup := h7
    opq := He.eqO_ok h8
    sys := h9 }
theorem excC_of {K : PySem.W.Frag} {C : Addr} (h : excB K C = true) : ExcC K C ∧ XfC K C ∧ (PySem.W.clsIn K C).isSome = true := by
  unfold excB at h
  simp only [Bool.and_eq_true] at h
  obtain ⟨⟨⟨⟨⟨⟨⟨⟨h1, h2⟩, h3⟩, h4⟩, h5⟩, h6⟩, h7⟩, h8⟩, h9⟩ := h
  exact ⟨⟨He.eqO_ok h1, He.eqO_ok h2, eqB_ok h3, h4, He.eqO_ok h5, He.eqO_ok h6, eqB_ok h7, eqB_ok h8⟩, ⟨He.eqO_ok h1, He.eqO_ok h2, eqB_ok h3, h4⟩, h9⟩
theorem lookup_mem1 : ∀ {l : List IniD} {c fld : Str}, (l.map fun q => (q.c, q.fld)).lookup c = some fld → ∃ d ∈ l, d.c = c ∧ d.fld = fld
  | [], _, _, h => by cases h
  | d :: l, c, fld, h => by
    have h : ((d.c, d.fld) :: l.map fun q => (q.c, q.fld)).lookup c = some fld := h
    rw [List.lookup_cons] at h
    cases q : (c == d.c) with
    | true =>
      rw [q] at h
      injection h with h
      exact ⟨d, List.mem_cons_self, (eq_of_beq q).symm, h⟩
    | false =>
      rw [q] at h
      obtain ⟨d', h1, h2⟩ := lookup_mem1 h
      exact ⟨d', List.mem_cons_of_mem _ h1, h2⟩
theorem ini_val {K : PySem.W.Frag} : ∀ {l : List IniD}, (l.map fun d => iniW K (iniAt K d.c)) = l.map IniD.val → ∀ d ∈ l, iniW K (iniAt K d.c) = d.val
  | [], _, _, h => by cases h
  | d :: l, e, d', h => by
    have e : iniW K (iniAt K d.c) :: _ = d.val :: _ := e
    injection e with e1 e2
    rcases List.mem_cons.mp h with h | h
    · rw [h]
      exact e1
    · exact ini_val e2 d' h
theorem excX_of {fa : List He.Fa} {fn : List He.DefD} {x : ExD} {file : Str} {K : PySem.W.Frag} {X : Cx} {h : Heap} (c : SaysX fa fn x file K) (hK : X.K = K) (KX : K.In h) (G : h.Ns mainGlobals X.mg) (hP : X.prog.main.file = file) (st : ∀ d ∈ x.mk1, IniS X.prog d)
    (hb : ∀ t ∈ x.blt, bootBuiltins t.1 = some (.type t.2)) : ExcX (clOf K x) x.tab X ∧ SysK X.K := by
  have F := exF_of c.ok
  have glo : ∀ c ∈ x.all ++ x.own, X.mg c = some (.ref (He.ga K c)) := fun c hc => He.glo_ok KX G (F.glo c hc)
  have in0 : ∀ c ∈ x.mk0, c ∈ x.all := fun c hc => List.mem_append_left _ hc
  have in1 : ∀ d ∈ x.mk1, d.c ∈ x.all := fun d hd => List.mem_append_right _ (List.mem_map.mpr ⟨d, hd, rfl⟩)
  refine ⟨?_, ?_⟩
  · exact
    { c0 := fun c hc => by
        have hc : c ∈ x.mk0 := hc
        have z := F.pl c hc
        unfold plOk at z
        simp only [Bool.and_eq_true] at z
        rw [hK]
        exact ⟨_, clOf_some (in0 c hc), glo c (List.mem_append_left _ (in0 c hc)), z.2, ⟨"ValueError", _, _, _, PySem.F.excBase_ValueError, z.1.1, He.eqO_ok z.1.2⟩⟩
      c1 := fun c fld hc => by
        obtain ⟨d, hd, rfl, rfl⟩ := lookup_mem1 hc
        have z := F.ini d hd
        unfold iniOk at z
        simp only [Bool.and_eq_true] at z
        obtain ⟨⟨⟨⟨⟨⟨⟨⟨⟨⟨z1, z2⟩, z3⟩, z4⟩, z5⟩, z6⟩, z7⟩, z8⟩, z9⟩, z10⟩, z11⟩ := z
        have S := st d hd
        obtain ⟨par, p, eb, hhd, hbi, hpl, hln, hps, hdb⟩ := S.body
        have ev := ini_val c.ini d hd
        unfold IniD.val at ev
        rw [eb] at ev
        obtain ⟨cda, cc, hlk, hcd, hfi, hce⟩ := iniB_ok z11 ev
        obtain ⟨nm, qn, N, bs, bm, sn, sub, ab, col, dd, k0, k1, k2, k3, k5, hC, ht⟩ := suB_ok z1
        obtain ⟨B, iid, bm0, FB, TB⟩ := S.mkr
        rw [hK]
        refine ⟨He.ga K d.c, iniAt K d.c, cda, cc, par, d.qual, defArgs d.st, defScope d.st, p, clOf_some (in1 d hd), glo d.c (List.mem_append_left _ (in1 d hd)), z10, ?_, ?_⟩
        · exact
          { cls := ⟨nm, qn, N, bs, bm, sn, sub, ab, col, dd, k0, k1, k2, k3, k5, B, d.nid, iid, bm0, hC, FB, tail_ex ht TB, fun self => by
              rw [refuseLoop_ref]
              exact PySem.W.excTail_pass self (S.pas self) bm ht⟩
            ob := eqB_ok z2
            se := eqB_ok z3
            ini := ⟨d.bi, d.i, S.ini, He.eqO_ok z4, eqB_ok z5⟩
            opq := F.opq
            find := He.eqO_ok z6
            ty := of_decide_eq_true z7
            sa := He.eqO_ok z8
            no := He.eqO_ok z9 }
        · exact
          { lk := hlk
            bi := fun kV doc pm an ct a b => hbi kV doc pm an ct cda cc a b
            hd := hhd
            cd := hcd
            fi := by
              rw [hP]
              exact hfi
            ce := hce
            s1 := S.s1
            s2 := S.s2
            s3 := S.s3
            s4 := hpl
            s5 := S.s5
            s6 := S.s6
            s7 := S.s7
            s8 := S.s8
            ln := hln
            nps := hps
            ndb := hdb
            top := S.top }
      fl := fun c A hc => by
        obtain ⟨h1, rfl⟩ := clOf_inv hc
        obtain ⟨e1, e2, e3⟩ := excC_of (F.exc c h1)
        rw [hK]
        refine ⟨e2, e3, e1, fun c' fld hc' => ?_⟩
        obtain ⟨d, hd, _, rfl⟩ := lookup_mem1 hc'
        exact F.fld c h1 d hd
      nm := fun t ht => by
        have ht : t ∈ x.own ++ x.blt.map (·.1) := ht
        rw [hK]
        rcases List.mem_append.mp ht with ht | ht
        · refine ⟨.ref (He.ga K t), .ref (He.ga K t), .own _, .inl ⟨glo t (List.mem_append_right _ ht), rfl⟩, fun c b A hi hc => ?_⟩
          obtain ⟨h1, rfl⟩ := clOf_inv hc
          exact (F.own t ht c h1).trans hi
        · obtain ⟨q, hq, rfl⟩ := List.mem_map.mp ht
          obtain ⟨f1, f2⟩ := F.blt q hq
          refine ⟨.type q.2, .ty q.2, .ty _, .inr ⟨He.free_ok KX G f1, hb q hq, rfl⟩, fun c b A hi hc => ?_⟩
          obtain ⟨h1, rfl⟩ := clOf_inv hc
          exact (f2 c h1).trans hi
      sup := He.free_ok KX G F.sup }
  · rw [hK]
    exact Option.isSome_iff_exists.mp F.sys
end DL


set_option Elab.async false
set_option linter.all false
set_option maxRecDepth 100000
set_option maxHeartbeats 4000000
/-! EVALUATION by hand: expressions whose values are known at a state, the dice's words -/
namespace DL
open PySem PySem.Spec PyProof.Rows L2
/-- e has the value v at s and leaves s -/
def Ev (S : Sem) (κ : Kx) (s : DS) (e : Expr) (v : D) : Prop := S.E κ e s = some (.st v, s)
theorem bin_st {p : List D → Option BV} {f h : FE} {s : DS} {a b r : D} (e1 : f s = some (.st a, s)) (e2 : h s = some (.st b, s)) (e3 : p [a, b] = some (.st r)) : primE p (consA f (consA h nilA)) s = some (.st r, s) := by
  unfold primE consA nilA
  rw [e1]
  simp only
  rw [e2]
  simp only [settle, conts, cont]
  rw [e3]
theorem one_st {p : List D → Option BV} {f : FE} {s : DS} {a r : D} (e1 : f s = some (.st a, s)) (e3 : p [a] = some (.st r)) : primE p (consA f nilA) s = some (.st r, s) := by
  unfold primE consA nilA
  rw [e1]
  simp only [settle, conts, cont]
  rw [e3]
section
variable {Δ : Inf} {m : Nat} {κ : Kx} {s : DS} {a b : Expr} {i j : Int} {pos : Pos}
abbrev SD (Δ : Inf) (m : Nat) : Sem := sem Δ wD m
theorem ev_add (h1 : Ev (SD Δ m) κ s a (.int i)) (h2 : Ev (SD Δ m) κ s b (.int j)) : Ev (SD Δ (m + 1)) κ s (.BinOp a .Add b pos) (.int (i + j)) := bin_st (p := pAdd) h1 h2 rfl
theorem ev_mod (h1 : Ev (SD Δ m) κ s a (.int i)) (h2 : Ev (SD Δ m) κ s b (.int j)) (h : 0 < j) : Ev (SD Δ (m + 1)) κ s (.BinOp a .Mod b pos) (.int (i % j)) := bin_st (p := pMod) h1 h2 (if_pos h)
theorem ev_div (h1 : Ev (SD Δ m) κ s a (.int i)) (h2 : Ev (SD Δ m) κ s b (.int j)) (h : 0 < j) (h9 : j.natAbs.log2 < 9000) : Ev (SD Δ (m + 1)) κ s (.BinOp a .FloorDiv b pos) (.int (i / j)) :=
  bin_st (p := pFdivW) h1 h2 (if_pos (by rw [decide_eq_true h, decide_eq_true h9]; rfl))
theorem ev_mulL (h1 : Ev (SD Δ m) κ s a (.int i)) (h2 : Ev (SD Δ m) κ s b (.int j)) (h : big64 i = true) : Ev (SD Δ (m + 1)) κ s (.BinOp a .Mult b pos) (.int (i * j)) := bin_st (p := pMul) h1 h2 (if_pos (by rw [h]; rfl))
theorem ev_mulR (h1 : Ev (SD Δ m) κ s a (.int i)) (h2 : Ev (SD Δ m) κ s b (.int j)) (h : big64 j = true) : Ev (SD Δ (m + 1)) κ s (.BinOp a .Mult b pos) (.int (i * j)) := bin_st (p := pMul) h1 h2 (if_pos (by rw [h, Bool.or_true]))
theorem ev_const {k : Int} {jj : Nat} {pp : Pos} : Ev (SD Δ (m + 1)) κ s (.Constant (.int k) jj pp) (.int k) := rfl
theorem big_of {i : Int} (h1 : 0 ≤ i) (h2 : i < 2 ^ 64) : big64 i = true := by
  unfold big64
  rw [decide_eq_true (by omega), decide_eq_true h2]
  rfl
theorem set_nx {n : Nat} {f : FE} {s s1 : DS} {d : D} (e : f s = some (.st d, s1)) : setS n f s = some (.nx, { s1 with ρ := s1.ρ.set n (some (.d d)) }) := by
  unfold setS
  rw [e]
  rfl
theorem seq_nx {f h : FS} {s s1 : DS} (e : f s = some (.nx, s1)) : seqS f h s = h s1 := by
  unfold seqS
  rw [e]
theorem seq_ret {f h : FS} {s s1 : DS} {b : BV} (e : f s = some (.ret b, s1)) : seqS f h s = some (.ret b, s1) := by
  unfold seqS
  rw [e]
theorem if_t {c : FT} {a b : FS} {s s1 : DS} (e : c s = some (true, s1)) : ifS c a b s = a s1 := by
  unfold ifS
  rw [e]
theorem if_f {c : FT} {a b : FS} {s s1 : DS} (e : c s = some (false, s1)) : ifS c a b s = b s1 := by
  unfold ifS
  rw [e]
theorem ret_st {f : FE} {s s1 : DS} {d : D} (e : f s = some (.st d, s1)) : retS f s = some (.ret (.st d), s1) := by
  unfold retS
  rw [e]
  rfl
theorem dice_set {k : Int} {f e : FE} {s : DS} {x : Int} {g' : G} (h1 : e s = some (.st (.int x), s)) (h2 : f s = some (.st .dice, s)) (h3 : dicePut s.g x k = some g') : diceS k f e s = some (.nx, { s with g := g' }) := by
  unfold diceS
  rw [h1]
  simp only
  rw [h2]
  simp only
  rw [h3]
end
/-! ### the roll -/
def rollV (g : G) (t : Int) : Int := if 0 < g.l then g.l % t else
  (((g.m + 1000211 * (g.c + 1)) % 2305843009213693951 * ((g.m + 1000211 * (g.c + 1)) % 2305843009213693951) % 2305843009213693921 * ((g.m + 1000211 * (g.c + 1)) % 2305843009213693951) + 9431 * (g.c + 1)) % 2305843009213693907) / 4096 % t
def rollG (g : G) (t : Int) : G := if 0 < g.l then { g with l := g.l / t } else { g with c := g.c + 1 }
def rollD : Den := fun ds g => match ds with
  | [.dice, .int t] => if 0 < t ∧ t < 1073741824 then some (.st (.int (rollV g t)), rollG g t) else none
  | _ => none
theorem rollV_lt (g : G) {t : Int} (h : 0 < t) : 0 ≤ rollV g t ∧ rollV g t < t := by
  unfold rollV
  split
  · exact ⟨Int.emod_nonneg _ (by omega), Int.emod_lt_of_pos _ h⟩
  · exact ⟨Int.emod_nonneg _ (by omega), Int.emod_lt_of_pos _ h⟩
end DL


set_option Elab.async false
set_option linter.all false
set_option maxRecDepth 100000
set_option maxHeartbeats 4000000
/-! k00: the defs as data -/
namespace K00
open PySem PySem.Spec PyProof.Rows L2 DL
def top (i : Nat) : Stmt := PySem.Challenge.pw_watchkinds_k00_errors_and_what_they_keep.main.body.getD i (.Pass ⟨0, 0, 0, 0⟩)
def T : ExT where
  mk0 := ["WatchError", "InvalidWord", "InvalidMachine", "InvalidBox", "InvalidOperation"]
  mk1 := [("ParseError", "line"), ("UnknownName", "name"), ("InvalidNumber", "value"), ("TooMany", "limit"), ("NothingToUndo", "many"), ("Refused", "reason")]
  names := ["InvalidWord", "InvalidMachine", "InvalidBox", "InvalidOperation", "ParseError", "WatchError", "ValueError", "UnknownName", "InvalidNumber", "TooMany", "NothingToUndo", "Refused", "KeyError", "RuntimeError", "OverflowError", "IndexError", "ArithmeticError", "LookupError"]
  isx := fun c t =>
    let ups : List (Str × List Str) := [("WatchError", ["WatchError", "ValueError"]), ("InvalidWord", ["InvalidWord", "WatchError", "ValueError"]), ("InvalidMachine", ["InvalidMachine", "WatchError", "ValueError"]),
      ("InvalidBox", ["InvalidBox", "WatchError", "ValueError"]), ("InvalidOperation", ["InvalidOperation", "WatchError", "ValueError"]), ("ParseError", ["ParseError", "WatchError", "ValueError"]),
      ("UnknownName", ["UnknownName", "KeyError", "LookupError"]), ("InvalidNumber", ["InvalidNumber", "RuntimeError"]), ("TooMany", ["TooMany", "OverflowError", "ArithmeticError"]),
      ("NothingToUndo", ["NothingToUndo", "IndexError", "LookupError"]), ("Refused", ["Refused", "ArithmeticError"])]
    match ups.lookup c with
    | some l => some (l.contains t)
    | none => none
def fr (l : List Str) : Str → Bool := fun x => l.contains x
abbrev free0 : List Str := ["isinstance", "repr", "len", "int", "abs", "range", "max", "min", "super"]
section
variable (M : Cx → Prop)
def gRoll : Gam := { fn := fun _ => none, cst := fun _ => none, free := fr free0, more := M }
def nRoll : List Str := ["_law_dice_here", "_law_total", "_law_number", "_law_drawn", "_law_one", "_law_two"]
def iRoll : Inf := ⟨nRoll, gRoll M⟩
def dRoll : Den := denF (iRoll M) wD 12 (defScope (top 14)) (defBody (top 14))
def nDice : List Str := ["_law_script", "_law_at", "_law_cell", "_law_great", "_law_left", "_law_mixed"]
def iDice : Inf := ⟨nDice, gRoll M⟩
def dDice : Den := denF (iDice M) wD 12 (defScope (top 13)) (defBody (top 13))
def gOne : Gam := { gRoll M with fn := fun x => if x == ("_law_roll" : Str) then some (2, rollD) else none }
def iOne : Inf := ⟨["_law_dice_here", "_law_items"], gOne M⟩
def dOne : Den := denF (iOne M) {} 8 (defScope (top 15)) (defBody (top 15))
def iKinds : Inf := ⟨["_law_error", "_law_told", "_law_one"], gRoll M⟩
def dKinds : Den := denF (iKinds M) ((wX (iKinds M) T).or wJ) 10 (defScope (top 16)) (defBody (top 16))
def gRight (one : Den) : Gam := { gRoll M with fn := fun x => if x == ("_law_one_of" : Str) then some (2, one) else if x == ("_law_kinds" : Str) then some (1, dKinds M) else none }
def iRight (one : Den) : Inf := ⟨["_law_dice_here", "_law_thing", "_law_base", "_law_due", "_law_none", "_law_others", "_law_kept", "_law_one"], gRight M one⟩
def dRight (one : Den) : Den := denF (iRight M one) ((wX (iRight M one) T).or (wJ.or wD)) 10 (defScope (top 17)) (defBody (top 17))
end
example : dRoll (fun _ => True) [.dice, .int 11] ⟨100, 5, 0⟩ = some (.st (.int 1), ⟨9, 5, 0⟩) := by kernel_rfl
example : dRoll (fun _ => True) [.dice, .int 11] ⟨0, 5, 0⟩ = some (.st (.int 10), ⟨0, 5, 1⟩) := by kernel_rfl
example : dDice (fun _ => True) [.scr [5, -3], .int 1] ⟨0, 5, 0⟩ = some (.fr (.lst [.int 0, .int 177614, .int 0]), ⟨0, 5, 0⟩) := by kernel_rfl
example : dOne (fun _ => True) [.dice, .lst [.int 7, .int 8]] ⟨101, 5, 0⟩ = some (.st (.int 8), ⟨50, 5, 0⟩) := by kernel_rfl
example : dKinds (fun _ => True) [.exc "ParseError" [("line", .non)]] ⟨0, 5, 0⟩ = some (.st (.str ("....xxx...........".toList.map Char.toNat)), ⟨0, 5, 0⟩) := by kernel_rfl
example : dRight (fun _ => True) (fun _ g => some (.st (.int 0), g)) [.dice] ⟨0, 5, 0⟩ = some (.st (.bl true), ⟨0, 5, 0⟩) := by kernel_rfl
end K00


set_option Elab.async false
set_option linter.all false
set_option maxRecDepth 100000
set_option maxHeartbeats 4000000
/-! k00: _law_right is true, whatever is drawn -/
namespace K00
open PySem PySem.Spec PyProof.Rows L2 DL
def ch (c : Char) : Nat := c.toNat
def things : List D := [.int 0, .str [], .str [97], .non, .tup [], .tup [.str [97], .int 1], .int (10 ^ 30), .bl true, .lst [.int 1], .dct [(.str [97], .tup [])], .int (-7)]
section
variable (M : Cx → Prop)
abbrev κR : Kx := ⟨defScope (top 17), fun _ => true⟩
abbrev semR (one : Den) : Sem := sem (iRight M one) ((wX (iRight M one) T).or (wJ.or wD)) 10
def stA : Stmt := (defBody (top 17)).getD 0 (.Pass ⟨0, 0, 0, 0⟩)
def stB : List Stmt := (defBody (top 17)).drop 1
def A (one : Den) : FS := (semR M one).S κR stA
def B (one : Den) : FS := blkS (semR M one) κR stB
def s0 (g : G) : DS := ⟨[some (.d .dice), none, none, none, none, none, none, none], g⟩
def fin : Option (Out × DS) → Option (BV × G)
  | some (.ret (.st d), s') => some (.st d, s'.g)
  | some (.ret (.fr d), s') => some (.fr d, s'.g)
  | some (.nx, s') => some (.st .non, s'.g)
  | _ => none
theorem right_eq (one : Den) (g : G) : dRight M one [.dice] g = fin (seqS (A M one) (B M one) (s0 g)) := by kernel_rfl
def callX : Expr := match stA with
  | .Assign _ e _ => e
  | _ => .Name "" ⟨0, 0, 0, 0⟩
def argX : List Expr := match callX with
  | .Call _ es _ _ => es
  | _ => []
theorem A_form (one : Den) : A M one = setS 1 ((sem (iRight M one) ((wX (iRight M one) T).or (wJ.or wD)) 9).E κR callX) := by rfl
theorem E_form (one : Den) : (sem (iRight M one) ((wX (iRight M one) T).or (wJ.or wD)) 9).E κR callX = callE 2 one (argA (sem (iRight M one) ((wX (iRight M one) T).or (wJ.or wD)) 8) κR argX) := by rfl
theorem args_eq (one : Den) (g : G) : argA (sem (iRight M one) ((wX (iRight M one) T).or (wJ.or wD)) 8) κR argX (s0 g) = some ([.st .dice, .st (.lst things)], s0 g) := by kernel_rfl
def s1 (x : D) (g : G) : DS := ⟨[some (.d .dice), some (.d x), none, none, none, none, none, none], g⟩
theorem call_st {n : Nat} {den : Den} {f : FA} {s s1 : DS} {bs : List BV} {ds : List D} {x : D} {g' : G} (e1 : f s = some (bs, s1)) (hl : bs.length = n) (e2 : conts s1 bs = some ds) (e3 : den ds s1.g = some (.st x, g')) (e4 : frozs bs s1 = some s1) :
    callE n den f s = some (.st x, { s1 with g := g' }) := by
  unfold callE
  rw [e1]
  simp only
  rw [if_pos hl, e2]
  simp only
  rw [e3]
  simp only
  rw [e4]
  split <;> rfl
theorem A_eq (one : Den) (g : G) (x : D) (g' : G) (h : one [.dice, .lst things] g = some (.st x, g')) : A M one (s0 g) = some (.nx, s1 x g') := by
  have e := call_st (n := 2) (args_eq M one g) rfl rfl h rfl
  rw [A_form, E_form]
  unfold setS
  rw [e]
  rfl
theorem right_of (one : Den) (g : G) (x : D) (g' : G) (h : one [.dice, .lst things] g = some (.st x, g')) (hb : fin (B M one (s1 x g')) = some (.st (.bl true), g')) : dRight M one [.dice] g = some (.st (.bl true), g') := by
  rw [right_eq, seq_nx (A_eq M one g x g' h)]
  exact hb
theorem B0 (one : Den) (g : G) : fin (B M one (s1 (.int 0) g)) = some (.st (.bl true), g) := by kernel_rfl
theorem B1 (one : Den) (g : G) : fin (B M one (s1 (.str []) g)) = some (.st (.bl true), g) := by kernel_rfl
theorem B2 (one : Den) (g : G) : fin (B M one (s1 (.str [97]) g)) = some (.st (.bl true), g) := by kernel_rfl
theorem B3 (one : Den) (g : G) : fin (B M one (s1 (.non) g)) = some (.st (.bl true), g) := by kernel_rfl
theorem B4 (one : Den) (g : G) : fin (B M one (s1 (.tup []) g)) = some (.st (.bl true), g) := by kernel_rfl
theorem B5 (one : Den) (g : G) : fin (B M one (s1 (.tup [.str [97], .int 1]) g)) = some (.st (.bl true), g) := by kernel_rfl
theorem B6 (one : Den) (g : G) : fin (B M one (s1 (.int (10 ^ 30)) g)) = some (.st (.bl true), g) := by kernel_rfl
theorem B7 (one : Den) (g : G) : fin (B M one (s1 (.bl true) g)) = some (.st (.bl true), g) := by kernel_rfl
theorem B8 (one : Den) (g : G) : fin (B M one (s1 (.lst [.int 1]) g)) = some (.st (.bl true), g) := by kernel_rfl
theorem B9 (one : Den) (g : G) : fin (B M one (s1 (.dct [(.str [97], .tup [])]) g)) = some (.st (.bl true), g) := by kernel_rfl
theorem B10 (one : Den) (g : G) : fin (B M one (s1 (.int (-7)) g)) = some (.st (.bl true), g) := by kernel_rfl
theorem B_all (one : Den) (g : G) : ∀ x ∈ things, fin (B M one (s1 x g)) = some (.st (.bl true), g) := by
  intro x hx
  unfold things at hx
  simp only [List.mem_cons, List.not_mem_nil, or_false] at hx
  rcases hx with rfl | rfl | rfl | rfl | rfl | rfl | rfl | rfl | rfl | rfl | rfl
  · exact B0 M one g
  · exact B1 M one g
  · exact B2 M one g
  · exact B3 M one g
  · exact B4 M one g
  · exact B5 M one g
  · exact B6 M one g
  · exact B7 M one g
  · exact B8 M one g
  · exact B9 M one g
  · exact B10 M one g
/-- a den that draws one of a list -/
def Draws (one : Den) : Prop := ∀ (g : G) (xs : List D), xs ≠ [] → xs.length < 1073741824 → ∃ x g', x ∈ xs ∧ one [.dice, .lst xs] g = some (.st x, g')
theorem right_ok (one : Den) (hd : Draws one) (g : G) : ∃ g', dRight M one [.dice] g = some (.st (.bl true), g') := by
  obtain ⟨x, g', h1, h2⟩ := hd g things (by unfold things; simp) (by decide)
  exact ⟨g', right_of M one g x g' h2 (B_all M one g' x h1)⟩
end
end K00


set_option Elab.async false
set_option linter.all false
set_option maxRecDepth 100000
set_option maxHeartbeats 4000000
/-! k00: the roll -/
namespace K00
open PySem PySem.Spec PyProof.Rows L2 DL
section
variable (M : Cx → Prop)
abbrev κr : Kx := ⟨defScope (top 14), fun _ => true⟩
def bst (i : Nat) : Stmt := (defBody (top 14)).getD i (.Pass ⟨0, 0, 0, 0⟩)
def ifT : List Stmt := match bst 1 with
  | .If _ a _ _ => a
  | _ => []
def ifC : Expr := match bst 1 with
  | .If c _ _ _ => c
  | _ => .Name "" ⟨0, 0, 0, 0⟩
def tst (i : Nat) : Stmt := ifT.getD i (.Pass ⟨0, 0, 0, 0⟩)
def valE : Stmt → Expr
  | .Assign _ e _ => e
  | .Return (some e) _ => e
  | _ => .Name "" ⟨0, 0, 0, 0⟩
def lhs : Expr → Expr
  | .BinOp a _ _ _ => a
  | _ => .Name "" ⟨0, 0, 0, 0⟩
def rhs : Expr → Expr
  | .BinOp _ _ b _ => b
  | _ => .Name "" ⟨0, 0, 0, 0⟩
def r6 (a b c d : Option SV) (t : Int) (g : G) : DS := ⟨[some (.d .dice), some (.d (.int t)), a, b, c, d], g⟩
abbrev iv (x : Int) : Option SV := some (.d (.int x))
def diceN : Expr := .Name "_law_dice_here" ⟨0, 0, 0, 0⟩
theorem roll_body : dRoll M = denOf 6 (seqS ((SD (iRoll M) 12).S κr (bst 0)) (seqS ((SD (iRoll M) 12).S κr (bst 1)) (seqS ((SD (iRoll M) 12).S κr (bst 2)) (seqS ((SD (iRoll M) 12).S κr (bst 3)) (seqS ((SD (iRoll M) 12).S κr (bst 4)) (seqS ((SD (iRoll M) 12).S κr (bst 5)) ((SD (iRoll M) 12).S κr (bst 6)))))))) := by rfl
theorem q0 (t : Int) (g : G) : (SD (iRoll M) 12).S κr (bst 0) (r6 none none none none t g) = some (.nx, r6 (iv t) none none none t g) := by kernel_rfl
theorem q1 : (SD (iRoll M) 12).S κr (bst 1) = ifS ((SD (iRoll M) 11).T κr ifC) (seqS ((SD (iRoll M) 11).S κr (tst 0)) (seqS ((SD (iRoll M) 11).S κr (tst 1)) ((SD (iRoll M) 11).S κr (tst 2)))) nxS := by rfl
theorem q1c (t : Int) (g : G) : (SD (iRoll M) 11).T κr ifC (r6 (iv t) none none none t g) = some (decide (0 < g.l), r6 (iv t) none none none t g) := by kernel_rfl
theorem t0f : (SD (iRoll M) 11).S κr (tst 0) = setS 3 ((SD (iRoll M) 10).E κr (valE (tst 0))) := by rfl
theorem t0 (t : Int) (g : G) (h : 0 < t) : (SD (iRoll M) 11).S κr (tst 0) (r6 (iv t) none none none t g) = some (.nx, r6 (iv t) (iv (g.l % t)) none none t g) := by
  rw [t0f]
  have e : Ev (SD (iRoll M) 10) κr (r6 (iv t) none none none t g) (.BinOp (lhs (valE (tst 0))) .Mod (rhs (valE (tst 0))) _) (.int (g.l % t)) := ev_mod (m := 9) (by unfold Ev; kernel_rfl) (by unfold Ev; kernel_rfl) h (pos := (valE (tst 0)).pos)
  have e2 := set_nx (n := 3) e
  exact e2
theorem log_small {t : Int} (h0 : 0 < t) (h : t < 1073741824) : t.natAbs.log2 < 9000 := by
  have h2 : t.natAbs < 2 ^ 30 := by omega
  have h3 : t.natAbs ≠ 0 := by omega
  have := (Nat.log2_lt h3).mpr h2
  omega
theorem t1f : (SD (iRoll M) 11).S κr (tst 1) = diceS 0 ((SD (iRoll M) 10).E κr (match tst 1 with | .Assign [.Subscript x _ _] _ _ => x | _ => diceN)) ((SD (iRoll M) 10).E κr (valE (tst 1))) := by rfl
theorem t1 (t x : Int) (g : G) (h : 0 < t) (h3 : t < 1073741824) : (SD (iRoll M) 11).S κr (tst 1) (r6 (iv t) (iv x) none none t g) = some (.nx, r6 (iv t) (iv x) none none t { g with l := g.l / t }) := by
  rw [t1f]
  have e : Ev (SD (iRoll M) 10) κr (r6 (iv t) (iv x) none none t g) (.BinOp (lhs (valE (tst 1))) .FloorDiv (rhs (valE (tst 1))) (valE (tst 1)).pos) (.int (g.l / t)) := ev_div (m := 9) (by unfold Ev; kernel_rfl) (by unfold Ev; kernel_rfl) h (log_small h h3)
  exact dice_set (g' := { g with l := g.l / t }) e (by kernel_rfl) rfl
theorem t2 (t x : Int) (g : G) : (SD (iRoll M) 11).S κr (tst 2) (r6 (iv t) (iv x) none none t g) = some (.ret (.st (.int x)), r6 (iv t) (iv x) none none t g) := by kernel_rfl
theorem q2 (t : Int) (g : G) : (SD (iRoll M) 12).S κr (bst 2) (r6 (iv t) none none none t g) = some (.nx, r6 (iv t) none none none t { g with c := g.c + 1 }) := by kernel_rfl
theorem q3 (t : Int) (g : G) : (SD (iRoll M) 12).S κr (bst 3) (r6 (iv t) none none none t g) = some (.nx, r6 (iv t) none (iv ((g.m + 1000211 * g.c) % 2305843009213693951)) none t g) := by kernel_rfl
def twoA (o c : Int) : Int := o * o % 2305843009213693921 * o + 9431 * c
theorem q4f : (SD (iRoll M) 12).S κr (bst 4) = setS 5 ((SD (iRoll M) 11).E κr (valE (bst 4))) := by rfl
theorem q4 (t o : Int) (g : G) (h0 : 0 ≤ o) (h1 : o < 2305843009213693951) : (SD (iRoll M) 12).S κr (bst 4) (r6 (iv t) none (iv o) none t g) = some (.nx, r6 (iv t) none (iv o) (iv (twoA o g.c)) t g) := by
  rw [q4f]
  have ho : big64 o = true := big_of h0 (by omega)
  have e1 : Ev (SD (iRoll M) 8) κr (r6 (iv t) none (iv o) none t g) (.BinOp (lhs (lhs (lhs (lhs (valE (bst 4)))))) .Mult (rhs (lhs (lhs (lhs (valE (bst 4)))))) (lhs (lhs (lhs (valE (bst 4))))).pos) (.int (o * o)) := ev_mulL (m := 7) (by unfold Ev; kernel_rfl) (by unfold Ev; kernel_rfl) ho
  have e2 : Ev (SD (iRoll M) 9) κr (r6 (iv t) none (iv o) none t g) (.BinOp _ .Mod (rhs (lhs (lhs (valE (bst 4))))) (lhs (lhs (valE (bst 4)))).pos) (.int (o * o % 2305843009213693921)) := ev_mod (m := 8) e1 (by unfold Ev; kernel_rfl) (by decide)
  have e3 : Ev (SD (iRoll M) 10) κr (r6 (iv t) none (iv o) none t g) (.BinOp _ .Mult (rhs (lhs (valE (bst 4)))) (lhs (valE (bst 4))).pos) (.int (o * o % 2305843009213693921 * o)) := ev_mulR (m := 9) e2 (by unfold Ev; kernel_rfl) ho
  have e4 : Ev (SD (iRoll M) 11) κr (r6 (iv t) none (iv o) none t g) (.BinOp _ .Add (rhs (valE (bst 4))) (valE (bst 4)).pos) (.int (twoA o g.c)) := ev_add (m := 10) e3 (by unfold Ev; kernel_rfl)
  exact set_nx (n := 5) e4
theorem q5 (t o w : Int) (g : G) : (SD (iRoll M) 12).S κr (bst 5) (r6 (iv t) none (iv o) (iv w) t g) = some (.nx, r6 (iv t) none (iv o) (iv (w % 2305843009213693907)) t g) := by kernel_rfl
def argOf : Expr → Expr
  | .Call _ [e] _ _ => e
  | e => e
theorem q6f : (SD (iRoll M) 12).S κr (bst 6) = retS (primE pInt (consA ((SD (iRoll M) 10).E κr (argOf (valE (bst 6)))) nilA)) := by rfl
theorem q6 (t o w : Int) (g : G) (h : 0 < t) : (SD (iRoll M) 12).S κr (bst 6) (r6 (iv t) none (iv o) (iv w) t g) = some (.ret (.st (.int (w / 4096 % t))), r6 (iv t) none (iv o) (iv w) t g) := by
  rw [q6f]
  have e : Ev (SD (iRoll M) 10) κr (r6 (iv t) none (iv o) (iv w) t g) (.BinOp (lhs (argOf (valE (bst 6)))) .Mod (rhs (argOf (valE (bst 6)))) (argOf (valE (bst 6))).pos) (.int (w / 4096 % t)) := ev_mod (m := 9) (by unfold Ev; kernel_rfl) (by unfold Ev; kernel_rfl) h
  exact ret_st (one_st (p := pInt) e rfl)
theorem roll_eq (t : Int) (g : G) (h : 0 < t) (h3 : t < 1073741824) : dRoll M [.dice, .int t] g = some (.st (.int (rollV g t)), rollG g t) := by
  rw [roll_body]
  show (match seqS _ _ (r6 none none none none t g) with
    | some (.ret (.st d), s') => some (BV.st d, s'.g)
    | some (.ret (.fr d), s') => some (BV.fr d, s'.g)
    | some (.nx, s') => some (BV.st .non, s'.g)
    | _ => none) = _
  rw [seq_nx (q0 M t g), q1]
  by_cases hl : 0 < g.l
  · have c := q1c M t g
    rw [decide_eq_true hl] at c
    have e : ifS ((SD (iRoll M) 11).T κr ifC) (seqS ((SD (iRoll M) 11).S κr (tst 0)) (seqS ((SD (iRoll M) 11).S κr (tst 1)) ((SD (iRoll M) 11).S κr (tst 2)))) nxS (r6 (iv t) none none none t g) = some (.ret (.st (.int (g.l % t))), r6 (iv t) (iv (g.l % t)) none none t { g with l := g.l / t }) := by
      rw [if_t c, seq_nx (t0 M t g h), seq_nx (t1 M t (g.l % t) g h h3), t2]
    rw [seq_ret e]
    unfold rollV rollG
    rw [if_pos hl, if_pos hl]
    rfl
  · have c := q1c M t g
    rw [decide_eq_false hl] at c
    have e : ifS ((SD (iRoll M) 11).T κr ifC) (seqS ((SD (iRoll M) 11).S κr (tst 0)) (seqS ((SD (iRoll M) 11).S κr (tst 1)) ((SD (iRoll M) 11).S κr (tst 2)))) nxS (r6 (iv t) none none none t g) = some (.nx, r6 (iv t) none none none t g) := by
      rw [if_f c]
      rfl
    rw [seq_nx e, seq_nx (q2 M t g), seq_nx (q3 M t _), seq_nx (q4 M t _ _ (Int.emod_nonneg _ (by decide)) (Int.emod_lt_of_pos _ (by decide))), seq_nx (q5 M t _ _ _), q6 M t _ _ _ h]
    unfold rollV rollG
    rw [if_neg hl, if_neg hl]
    rfl
end
end K00


set_option Elab.async false
set_option linter.all false
set_option maxRecDepth 100000
set_option maxHeartbeats 4000000
/-! k00: one of a list -/
namespace K00
open PySem PySem.Spec PyProof.Rows L2 DL
section
variable (M : Cx → Prop)
abbrev κo : Kx := ⟨defScope (top 15), fun _ => true⟩
def retX : Expr := match (defBody (top 15)).getD 0 (.Pass ⟨0, 0, 0, 0⟩) with
  | .Return (some e) _ => e
  | e => .Name "" ⟨0, 0, 0, 0⟩
def subA : Expr := match retX with
  | .Subscript a _ _ => a
  | e => e
def subB : Expr := match retX with
  | .Subscript _ b _ => b
  | e => e
def callA : List Expr := match subB with
  | .Call _ es _ _ => es
  | _ => []
abbrev SO (m : Nat) : Sem := sem (iOne M) {} m
theorem one_form : dOne M = denOf 2 (retS (primE pIx (consA ((SO M 6).E κo subA) (consA ((SO M 6).E κo subB) nilA)))) := by rfl
theorem roll_form : (SO M 6).E κo subB = callE 2 rollD (argA (SO M 5) κo callA) := by rfl
def o2 (xs : List D) (g : G) : DS := ⟨[some (.d .dice), some (.d (.lst xs))], g⟩
theorem one_args (xs : List D) (g : G) : argA (SO M 5) κo callA (o2 xs g) = some ([.st .dice, .st (.int xs.length)], o2 xs g) := by kernel_rfl
theorem one_list (xs : List D) (g : G) : (SO M 6).E κo subA (o2 xs g) = some (.st (.lst xs), o2 xs g) := by kernel_rfl
theorem at_in {α : Type} {xs : List α} {i : Int} (h0 : 0 ≤ i) (h1 : i < xs.length) : ∃ x ∈ xs, atI xs i = some x := by
  have hn : i.toNat < xs.length := by omega
  refine ⟨xs[i.toNat], List.getElem_mem hn, ?_⟩
  unfold atI ixN
  rw [if_pos h0, if_pos h1]
  exact List.getElem?_eq_getElem hn
theorem one_draws : Draws (dOne M) := by
  intro g xs hne hl
  have h0 : (0 : Int) < xs.length := by
    have := List.length_pos_iff.mpr hne
    omega
  have h3 : (xs.length : Int) < 1073741824 := by omega
  obtain ⟨r0, r1⟩ := rollV_lt g h0
  obtain ⟨x, hx, ex⟩ := at_in r0 r1
  refine ⟨x, rollG g xs.length, hx, ?_⟩
  have er : rollD [.dice, .int xs.length] g = some (.st (.int (rollV g xs.length)), rollG g xs.length) := if_pos ⟨h0, h3⟩
  have ec := call_st (n := 2) (one_args M xs g) rfl rfl er rfl
  rw [one_form]
  show (match retS _ (o2 xs g) with
    | some (.ret (.st d), s') => some (BV.st d, s'.g)
    | some (.ret (.fr d), s') => some (BV.fr d, s'.g)
    | some (.nx, s') => some (BV.st .non, s'.g)
    | _ => none) = _
  have e : primE pIx (consA ((SO M 6).E κo subA) (consA ((SO M 6).E κo subB) nilA)) (o2 xs g) = some (.st x, o2 xs (rollG g xs.length)) := by
    unfold primE consA nilA
    rw [one_list, roll_form]
    simp only
    rw [ec]
    simp only [DL.settle, conts, cont]
    show (match pIx [.lst xs, .int (rollV g xs.length)] with | some (.st d) => some (BV.st d, _) | some (.fr d) => some (BV.fr d, _) | _ => none) = _
    unfold pIx
    simp only
    rw [ex]
    rfl
  rw [ret_st e]
  rfl
end
end K00


set_option Elab.async false
set_option linter.all false
set_option maxRecDepth 100000
set_option maxHeartbeats 4000000
/-! k00: the dice of a cell -/
namespace K00
open PySem PySem.Spec PyProof.Rows L2 DL
section
variable (M : Cx → Prop)
abbrev κd : Kx := ⟨defScope (top 13), fun _ => true⟩
def dst (i : Nat) : Stmt := (defBody (top 13)).getD i (.Pass ⟨0, 0, 0, 0⟩)
theorem dice_body : dDice M = denOf 6 (seqS ((SD (iDice M) 12).S κd (dst 0)) (seqS ((SD (iDice M) 12).S κd (dst 1)) (seqS ((SD (iDice M) 12).S κd (dst 2)) (seqS ((SD (iDice M) 12).S κd (dst 3)) (seqS ((SD (iDice M) 12).S κd (dst 4)) ((SD (iDice M) 12).S κd (dst 5))))))) := by rfl
def e6 (ns : List Int) (i : Int) (a b c d : Option SV) (g : G) : DS := ⟨[some (.d (.scr ns)), some (.d (.int i)), a, b, c, d], g⟩
theorem d0 (ns : List Int) (i : Int) (g : G) : (SD (iDice M) 12).S κd (dst 0) (e6 ns i none none none none g) = some (.nx, e6 ns i (iv (83 * i + 41)) none none none g) := by kernel_rfl
def dC : Expr := match dst 1 with
  | .If c _ _ _ => c
  | _ => .Name "" ⟨0, 0, 0, 0⟩
def dT : Stmt := match dst 1 with
  | .If _ (a :: _) _ _ => a
  | _ => .Pass ⟨0, 0, 0, 0⟩
theorem d1f : (SD (iDice M) 12).S κd (dst 1) = ifS ((SD (iDice M) 11).T κd dC) ((SD (iDice M) 11).S κd dT) nxS := by rfl
theorem d1c (ns : List Int) (i x : Int) (g : G) : (SD (iDice M) 11).T κd dC (e6 ns i (iv x) none none none g) = some (decide (i < ns.length), e6 ns i (iv x) none none none g) := by kernel_rfl
theorem d1t (ns : List Int) (i x n : Int) (g : G) (h : atI ns i = some n) : (SD (iDice M) 11).S κd dT (e6 ns i (iv x) none none none g) = some (.nx, e6 ns i (iv n) none none none g) := by
  have e : primE pIx (consA ((SD (iDice M) 9).E κd (.Name "_law_script" ⟨0, 0, 0, 0⟩)) (consA ((SD (iDice M) 9).E κd (.Name "_law_at" ⟨0, 0, 0, 0⟩)) nilA)) (e6 ns i (iv x) none none none g) = some (.st (.int n), e6 ns i (iv x) none none none g) :=
    bin_st (a := .scr ns) (b := .int i) (by kernel_rfl) (by kernel_rfl) (by
      show (match atI ns i with | some n => some (BV.st (.int n)) | none => none) = _
      rw [h])
  exact set_nx (n := 2) e
def absI (x : Int) : Int := if x < 0 then -x else x
theorem d2 (ns : List Int) (i x : Int) (g : G) : (SD (iDice M) 12).S κd (dst 2) (e6 ns i (iv x) none none none g) = some (.nx, e6 ns i (iv x) (iv (absI x % ((10 : Int) ^ 60) ^ 10)) none none g) := by kernel_rfl
theorem d3 (ns : List Int) (i x y : Int) (g : G) : (SD (iDice M) 12).S κd (dst 3) (e6 ns i (iv x) (iv y) none none g) = some (.nx, e6 ns i (iv x) (iv y) (iv (y / (10 : Int) ^ 18)) none g) := by kernel_rfl
theorem d5 (ns : List Int) (i x y z w : Int) (g : G) : (SD (iDice M) 12).S κd (dst 5) (e6 ns i (iv x) (iv y) (iv z) (iv w) g) = some (.ret (.fr (.lst [.int z, .int (w % 2147483053), .int 0])), e6 ns i (iv x) (iv y) (iv z) (iv w) g) := by kernel_rfl
theorem d4f : (SD (iDice M) 12).S κd (dst 4) = setS 5 ((SD (iDice M) 11).E κd (valE (dst 4))) := by rfl
theorem d4 (ns : List Int) (i x y z : Int) (g : G) : ∃ w, (SD (iDice M) 12).S κd (dst 4) (e6 ns i (iv x) (iv y) (iv z) none g) = some (.nx, e6 ns i (iv x) (iv y) (iv z) (iv w) g) := by
  rw [d4f]
  have e1 : Ev (SD (iDice M) 8) κd (e6 ns i (iv x) (iv y) (iv z) none g) (.BinOp (lhs (lhs (lhs (lhs (valE (dst 4)))))) .Mult (rhs (lhs (lhs (lhs (valE (dst 4)))))) (lhs (lhs (lhs (valE (dst 4))))).pos) (.int (y % 2147483059 * 58043)) := ev_mulR (m := 7) (by unfold Ev; kernel_rfl) (by unfold Ev; kernel_rfl) (by decide)
  have e2 : Ev (SD (iDice M) 9) κd (e6 ns i (iv x) (iv y) (iv z) none g) (.BinOp _ .Add (rhs (lhs (lhs (valE (dst 4))))) (lhs (lhs (valE (dst 4)))).pos) (.int (y % 2147483059 * 58043 + 3329 * i)) := ev_add (m := 8) e1 (by unfold Ev; kernel_rfl)
  have e3 : Ev (SD (iDice M) 10) κd (e6 ns i (iv x) (iv y) (iv z) none g) (.BinOp _ .Add (rhs (lhs (valE (dst 4)))) (lhs (valE (dst 4))).pos) (.int (y % 2147483059 * 58043 + 3329 * i + 67 * (if decide (x < 0) then 1 else 0))) := ev_add (m := 9) e2 (by unfold Ev; kernel_rfl)
  have e4 : Ev (SD (iDice M) 11) κd (e6 ns i (iv x) (iv y) (iv z) none g) (.BinOp _ .Add (rhs (valE (dst 4))) (valE (dst 4)).pos) (.int (y % 2147483059 * 58043 + 3329 * i + 67 * (if decide (x < 0) then 1 else 0) + 89)) := ev_add (m := 10) e3 (by unfold Ev; kernel_rfl)
  exact ⟨_, set_nx (n := 5) e4⟩
theorem d1 (ns : List Int) (i x : Int) (g : G) (h : 0 ≤ i) : ∃ y, (SD (iDice M) 12).S κd (dst 1) (e6 ns i (iv x) none none none g) = some (.nx, e6 ns i (iv y) none none none g) := by
  rw [d1f]
  have c := d1c M ns i x g
  by_cases hl : i < ns.length
  · rw [decide_eq_true hl] at c
    obtain ⟨n, _, hn⟩ := at_in h hl
    exact ⟨n, (if_t c).trans (d1t M ns i x n g hn)⟩
  · rw [decide_eq_false hl] at c
    exact ⟨x, (if_f c).trans rfl⟩
theorem dice_ok (ns : List Int) (i : Int) (g : G) (h : 0 ≤ i) : ∃ a b, dDice M [.scr ns, .int i] g = some (.fr (.lst [.int a, .int b, .int 0]), g) := by
  obtain ⟨y, e1⟩ := d1 M ns i (83 * i + 41) g h
  obtain ⟨w, e4⟩ := d4 M ns i y (absI y % ((10 : Int) ^ 60) ^ 10) ((absI y % ((10 : Int) ^ 60) ^ 10) / (10 : Int) ^ 18) g
  refine ⟨(absI y % ((10 : Int) ^ 60) ^ 10) / (10 : Int) ^ 18, w % 2147483053, ?_⟩
  rw [dice_body]
  show (match seqS _ _ (e6 ns i none none none none g) with
    | some (.ret (.st d), s') => some (BV.st d, s'.g)
    | some (.ret (.fr d), s') => some (BV.fr d, s'.g)
    | some (.nx, s') => some (BV.st .non, s'.g)
    | _ => none) = _
  rw [seq_nx (d0 M ns i g), seq_nx e1, seq_nx (d2 M ns i y g), seq_nx (d3 M ns i y _ g), seq_nx e4, d5]
  rfl
end
end K00


set_option Elab.async false
set_option linter.all false
set_option maxRecDepth 100000
set_option maxHeartbeats 4000000
/-! k00: the law's own def -/
namespace K00
open PySem PySem.Spec PyProof.Rows L2 DL
theorem for_all {g : FG} {f : FS} {P : DS → Prop} : ∀ {ds : List D}, (∀ d ∈ ds, ∀ s, P s → ∃ s1 s2, g d s = some s1 ∧ f s1 = some (.nx, s2) ∧ P s2) → ∀ s, P s → ∃ s', forS g f ds s = some (.nx, s') ∧ P s'
  | [], _, s, p => ⟨s, rfl, p⟩
  | d :: r, h, s, p => by
    obtain ⟨s1, s2, e1, e2, p2⟩ := h d List.mem_cons_self s p
    obtain ⟨s', e3, p3⟩ := for_all (fun d' hd' => h d' (List.mem_cons_of_mem _ hd')) s2 p2
    refine ⟨s', ?_, p3⟩
    show (match g d s with
      | some s1 => match f s1 with
        | some (.nx, s2) => forS g f r s2
        | some (.cnt, s2) => forS g f r s2
        | some (.brk, s2) => some (.nx, s2)
        | r => r
      | none => none) = _
    rw [e1]
    show (match f s1 with
        | some (.nx, s2) => forS g f r s2
        | some (.cnt, s2) => forS g f r s2
        | some (.brk, s2) => some (.nx, s2)
        | r => r) = _
    rw [e2]
    exact e3
theorem call_fr {n : Nat} {den : Den} {f : FA} {s s1 s2 : DS} {bs : List BV} {ds : List D} {x : D} {g' : G} (e1 : f s = some (bs, s1)) (hl : bs.length = n) (e2 : conts s1 bs = some ds) (e3 : den ds s1.g = some (.fr x, g')) (e4 : frozs bs s1 = some s2) :
    callE n den f s = some (.fr x, { s2 with g := g' }) := by
  unfold callE
  rw [e1]
  simp only
  rw [if_pos hl, e2]
  simp only
  rw [e3]
  simp only
  rw [e4]
  rfl
def forB : Stmt → List Stmt
  | .For _ _ b _ _ => b
  | _ => []
def forI : Stmt → Expr
  | .For _ e _ _ _ => e
  | _ => .Name "" ⟨0, 0, 0, 0⟩
def forT : Stmt → Expr
  | .For t _ _ _ _ => t
  | _ => .Name "" ⟨0, 0, 0, 0⟩
def stAt (b : List Stmt) (i : Nat) : Stmt := b.getD i (.Pass ⟨0, 0, 0, 0⟩)
def DiceOk (dice : Den) : Prop := ∀ (ns : List Int) (i : Int) (g : G), 0 ≤ i → ∃ a b, dice [.scr ns, .int i] g = some (.fr (.lst [.int a, .int b, .int 0]), g)
def RightOk (right : Den) : Prop := ∀ g : G, ∃ g', right [.dice] g = some (.st (.bl true), g')
section
variable (M : Cx → Prop) (dice right : Den)
def gLaw : Gam := { gRoll M with fn := fun x => if x == ("_law_dice" : Str) then some (2, dice) else if x == ("_law_right" : Str) then some (1, right) else none }
def iLaw : Inf := ⟨["_law_script", "_law_spot", "_law_dice_here", "_law_turn"], gLaw M dice right⟩
def xLaw : Ext := (wX (iLaw M dice right) T).or (wC (iLaw M dice right) ["_law_right"])
def dLaw : Den := denF (iLaw M dice right) (xLaw M dice right) 10 (defScope (top 18)) (defBody (top 18))
abbrev κl : Kx := ⟨defScope (top 18), fun _ => true⟩
abbrev SL (m : Nat) : Sem := sem (iLaw M dice right) (xLaw M dice right) m
def lo : Stmt := stAt (defBody (top 18)) 0
def la : Stmt := stAt (forB lo) 0
def li : Stmt := stAt (forB lo) 1
def lf : Stmt := stAt (forB li) 0
def lr : Stmt := stAt (defBody (top 18)) 1
theorem law_form : dLaw M dice right = denOf 4 (seqS (loopS ((SL M dice right 9).I κl (forT lo) (forI lo)) (nameG 1) (seqS ((SL M dice right 9).S κl la) ((SL M dice right 9).S κl li))) ((SL M dice right 10).S κl lr)) := by rfl
theorem li_form : (SL M dice right 9).S κl li = loopS ((SL M dice right 8).I κl (forT li) (forI li)) (nameG 3) ((SL M dice right 8).S κl lf) := by rfl
def st4 (ns : List Int) (a b c : Option SV) (g : G) : DS := ⟨[some (.d (.scr ns)), a, b, c], g⟩
theorem rng_i (ns : List Int) (a b c : Option SV) (g : G) : (SL M dice right 8).I κl (forT li) (forI li) (st4 ns a b c g) = some ([.int 0, .int 1, .int 2, .int 3], st4 ns a b c g) := by kernel_rfl
def outN (ns : List Int) : Int := if (if (ns.length : Int) < 8 then (ns.length : Int) else 8) > 1 then (if (ns.length : Int) < 8 then (ns.length : Int) else 8) else 1
def callEs : Expr → List Expr
  | .Call _ es _ _ => es
  | _ => []
theorem rng_form : (SL M dice right 9).I κl (forT lo) (forI lo) = range1I (argA (SL M dice right 8) κl (callEs (forI lo))) := by rfl
theorem rng_args (ns : List Int) (a b c : Option SV) (g : G) : argA (SL M dice right 8) κl (callEs (forI lo)) (st4 ns a b c g) = some ([.st (.int (outN ns))], st4 ns a b c g) := by kernel_rfl
theorem outN_ok (ns : List Int) : okR (outN ns) = true := by
  unfold okR outN
  rw [Bool.and_eq_true, decide_eq_true_eq, decide_eq_true_eq]
  split <;> split <;> omega
theorem rng_o (ns : List Int) (a b c : Option SV) (g : G) : (SL M dice right 9).I κl (forT lo) (forI lo) (st4 ns a b c g) = some (rangeL 0 (outN ns), st4 ns a b c g) := by
  rw [rng_form]
  unfold range1I
  rw [rng_args]
  exact if_pos (outN_ok ns)
theorem la_form : (SL M dice right 9).S κl la = setS 2 (callE 2 dice (argA (SL M dice right 7) κl (callEs (valE la)))) := by rfl
theorem la_args (ns : List Int) (i : Int) (b c : Option SV) (g : G) : argA (SL M dice right 7) κl (callEs (valE la)) (st4 ns (iv i) b c g) = some ([.st (.scr ns), .st (.int i)], st4 ns (iv i) b c g) := by kernel_rfl
theorem la_eq (ns : List Int) (i a1 b1 : Int) (b c : Option SV) (g : G) (h : dice [.scr ns, .int i] g = some (.fr (.lst [.int a1, .int b1, .int 0]), g)) :
    (SL M dice right 9).S κl la (st4 ns (iv i) b c g) = some (.nx, st4 ns (iv i) (some (.own (dOf ⟨a1, b1, 0⟩))) c g) := by
  rw [la_form]
  have e := call_fr (n := 2) (la_args M dice right ns i b c g) rfl rfl h rfl
  unfold setS
  rw [e]
  rfl
def notX : Expr := match lf with
  | .If c _ _ _ => c
  | _ => .Name "" ⟨0, 0, 0, 0⟩
def notY : Expr := match notX with
  | .UnaryOp _ x _ => x
  | e => e
def retF : Stmt := match lf with
  | .If _ (a :: _) _ _ => a
  | _ => .Pass ⟨0, 0, 0, 0⟩
theorem lf_form : (SL M dice right 8).S κl lf = ifS (notT (truT (dcallE right ((SL M dice right 5).E κl (.Name "_law_dice_here" ⟨0, 0, 0, 0⟩))))) ((SL M dice right 7).S κl retF) nxS := by rfl
theorem lf_eq (ns : List Int) (a c : Option SV) (g g1 g2 : G) (h : right [.dice] g1 = some (.st (.bl true), g2)) :
    (SL M dice right 8).S κl lf (st4 ns a (some (.own (dOf g1))) c g) = some (.nx, st4 ns a (some (.own (dOf g2))) c g) := by
  rw [lf_form]
  have e : dcallE right ((SL M dice right 5).E κl (.Name "_law_dice_here" ⟨0, 0, 0, 0⟩)) (st4 ns a (some (.own (dOf g1))) c g) = some (.st (.bl true), st4 ns a (some (.own (dOf g2))) c g) := by
    show (match right [.dice] g1 with
      | some (b, g') => if isSc b then some (b, { (st4 ns a (some (.own (dOf g1))) c g) with ρ := (st4 ns a (some (.own (dOf g1))) c g).ρ.set 2 (some (.own (dOf g'))) }) else none
      | none => none) = _
    rw [h]
    rfl
  have e2 : notT (truT (dcallE right ((SL M dice right 5).E κl (.Name "_law_dice_here" ⟨0, 0, 0, 0⟩)))) (st4 ns a (some (.own (dOf g1))) c g) = some (false, st4 ns a (some (.own (dOf g2))) c g) := by
    unfold notT truT
    rw [e]
    rfl
  rw [if_f e2]
  rfl
def Pi (ns : List Int) (i : Int) (g : G) (s : DS) : Prop := ∃ g1 c, s = st4 ns (iv i) (some (.own (dOf g1))) c g
def Po (ns : List Int) (g : G) (s : DS) : Prop := ∃ a b c, s = st4 ns a b c g
theorem lr_eq (ns : List Int) (a b c : Option SV) (g : G) : (SL M dice right 10).S κl lr (st4 ns a b c g) = some (.ret (.st (.bl true)), st4 ns a b c g) := by kernel_rfl
theorem inner_ok (hr : RightOk right) (ns : List Int) (i : Int) (g : G) (s : DS) (h : Pi ns i g s) : ∃ s', (SL M dice right 9).S κl li s = some (.nx, s') ∧ Pi ns i g s' := by
  rw [li_form]
  obtain ⟨g1, c, rfl⟩ := h
  obtain ⟨s', e, p⟩ := for_all (g := nameG 3) (f := (SL M dice right 8).S κl lf) (P := Pi ns i g) (ds := [.int 0, .int 1, .int 2, .int 3]) (fun d _ s p => by
    obtain ⟨g1, c, rfl⟩ := p
    obtain ⟨g2, e⟩ := hr g1
    exact ⟨_, _, rfl, lf_eq M dice right ns (iv i) (some (.d d)) g g1 g2 e, _, _, rfl⟩) _ ⟨g1, c, rfl⟩
  refine ⟨s', ?_, p⟩
  unfold loopS
  rw [rng_i]
  exact e
theorem law_ok (hd : DiceOk dice) (hr : RightOk right) (ns : List Int) (g : G) : dLaw M dice right [.scr ns] g = some (.st (.bl true), g) := by
  rw [law_form]
  show (match seqS _ _ (st4 ns none none none g) with
    | some (.ret (.st d), s') => some (BV.st d, s'.g)
    | some (.ret (.fr d), s') => some (BV.fr d, s'.g)
    | some (.nx, s') => some (BV.st .non, s'.g)
    | _ => none) = _
  obtain ⟨s', e, a, b, c, rfl⟩ := for_all (g := nameG 1) (f := seqS ((SL M dice right 9).S κl la) ((SL M dice right 9).S κl li)) (P := Po ns g) (ds := rangeL 0 (outN ns)) (fun d hd' s p => by
    obtain ⟨a, b, c, rfl⟩ := p
    unfold rangeL at hd'
    obtain ⟨i, _, rfl⟩ := List.mem_map.mp hd'
    obtain ⟨a1, b1, e1⟩ := hd ns (0 + (i : Nat)) g (by omega)
    have e2 := la_eq M dice right ns (0 + (i : Nat)) a1 b1 b c g e1
    obtain ⟨s', e3, g1, c1, rfl⟩ := inner_ok M dice right hr ns (0 + (i : Nat)) g _ ⟨⟨a1, b1, 0⟩, c, rfl⟩
    exact ⟨_, _, rfl, (seq_nx e2).trans e3, _, _, _, rfl⟩) _ ⟨none, none, none, rfl⟩
  have e' : loopS ((SL M dice right 9).I κl (forT lo) (forI lo)) (nameG 1) (seqS ((SL M dice right 9).S κl la) ((SL M dice right 9).S κl li)) (st4 ns none none none g) = some (.nx, st4 ns a b c g) := by
    unfold loopS
    rw [rng_o]
    exact e
  rw [seq_nx e', lr_eq]
  rfl
end
end K00


set_option Elab.async false
set_option linter.all false
set_option maxRecDepth 100000
set_option maxHeartbeats 0
/-! k00: the head -/
namespace K00
open PySem PySem.Spec PyProof.Rows L2 DL
def clBody : Stmt → List Stmt
  | .ClassDef _ _ _ b _ _ _ _ _ _ _ => b
  | _ => []
def iniSt (i : Nat) : Stmt := (clBody (top i)).getD 0 (.Pass ⟨0, 0, 0, 0⟩)
def bmOf (l : List String) : List Value := l.map Value.type
def xd : ExD where
  mk0 := T.mk0
  mk1 := [⟨"ParseError", "line", iniSt 6, "ValueError.__new__", bmOf ["ValueError", "Exception", "BaseException", "object"], "ValueError", "ValueError.__init__"⟩,
    ⟨"UnknownName", "name", iniSt 7, "LookupError.__new__", bmOf ["KeyError", "LookupError", "Exception", "BaseException", "object"], "KeyError", "KeyError.__init__"⟩,
    ⟨"InvalidNumber", "value", iniSt 8, "RuntimeError.__new__", bmOf ["RuntimeError", "Exception", "BaseException", "object"], "RuntimeError", "RuntimeError.__init__"⟩,
    ⟨"TooMany", "limit", iniSt 9, "OverflowError.__new__", bmOf ["OverflowError", "ArithmeticError", "Exception", "BaseException", "object"], "OverflowError", "OverflowError.__init__"⟩,
    ⟨"NothingToUndo", "many", iniSt 10, "IndexError.__new__", bmOf ["IndexError", "LookupError", "Exception", "BaseException", "object"], "IndexError", "IndexError.__init__"⟩,
    ⟨"Refused", "reason", iniSt 11, "ArithmeticError.__new__", bmOf ["ArithmeticError", "Exception", "BaseException", "object"], "ArithmeticError", "ArithmeticError.__init__"⟩]
  own := ["InvalidWord", "InvalidMachine", "InvalidBox", "InvalidOperation", "ParseError", "WatchError", "UnknownName", "InvalidNumber", "TooMany", "NothingToUndo", "Refused"]
  blt := [("ValueError", "ValueError"), ("KeyError", "KeyError"), ("RuntimeError", "RuntimeError"), ("OverflowError", "OverflowError"), ("IndexError", "IndexError"), ("ArithmeticError", "ArithmeticError"), ("LookupError", "LookupError")]
  isx := T.isx
def dd (x : Str) (i : Nat) : He.DefD := ⟨(x, none), x, x, defArgs (top i), defBody (top i), defScope (top i), [], []⟩
def fnL : List He.DefD := [dd "_law_dice" 13, dd "_law_roll" 14, dd "_law_one_of" 15, dd "_law_kinds" 16, dd "_law_right" 17, dd "law" 18]
def faL : List He.Fa := [.glo "_law_dice", .glo "_law_roll", .glo "_law_one_of", .glo "_law_kinds", .glo "_law_right", .glo "law", .free "isinstance", .free "repr", .free "len", .free "int", .free "abs", .free "range", .free "max", .free "min", .free "super"]
abbrev R : PySem.W.OpenRow := PySem.W.OpenLaw.row PySem.Challenge.rw_watchkinds_k00_errors_and_what_they_keep
def file : Str := R.prog.main.file
abbrev hk : PySem.W.Hook := hookX 6 faL fnL xd file
def ob (s : PySem.W.SharedT) : AlX := obsXG 6 faL fnL xd file (HandSHeadRun.getT s)
theorem ob_eq (s : PySem.W.SharedT) : ob s = hk.obs s.abs := obsXG_eq (HandSHeadRun.getT_eq s)
def loose : List Str := ["WatchError", "InvalidWord", "InvalidMachine", "InvalidBox", "InvalidOperation", "ParseError", "UnknownName", "InvalidNumber", "TooMany", "NothingToUndo", "Refused", "_law_dice", "_law_roll", "_law_one_of", "_law_kinds", "_law_right"]
theorem run (w : World) : HandSHeadRun.RunEq R (PySem.W.view R.prog [18]) hk ob 6000 loose w := by
  intro os
  kernel_rfl
end K00


set_option Elab.async false
set_option linter.all false
set_option maxRecDepth 100000
set_option maxHeartbeats 4000000
/-! k00: each def's promise -/
namespace DL
open PySem PySem.Spec PyProof.Rows L2
theorem FnG.imp {P : Program} {w : World} {K : PySem.W.Frag} {mg : Str → Option Value} {base : Heap} {CX : CXT} {k : Nat} {f : Addr} {fd : FuncData} {ps : List Str} {sp sp' : Sp} (F : FnG P w K mg base CX k f fd ps sp) (h : ∀ vs H Q E, sp' vs H Q E → sp vs H Q E) : FnG P w K mg base CX k f fd ps sp' :=
  ⟨fun vs H Q E z => F.len vs H Q E (h vs H Q E z), fun A outer s H args us vs Q E hr hg e0 b v z => F.run A outer s H args us vs Q E hr hg e0 b v (h vs H Q E z)⟩
theorem SpD.le {K : PySem.W.Frag} {cl : Str → Option Addr} {n : Nat} {den den' : Den} (h : ∀ ds g r, den' ds g = some r → den ds g = some r) : ∀ vs H Q E, SpD K cl n den' vs H Q E → SpD K cl n den vs H Q E := by
  intro vs H Q E ⟨C, g, ds, Hs, b, g', h1, h2, h3, h4, h5, h6, h7, h8⟩
  exact ⟨C, g, ds, Hs, b, g', h1, h2, h3, h4, h5, h6, h _ _ _ h7, h8⟩
end DL
namespace K00
open PySem PySem.Spec PyProof.Rows L2 DL
abbrev Pr : Program := R.prog
def posAt (st : Stmt) : Fin 10 → Pos := match defBody st with
  | [.Expr (.Call (.Attribute (.Call (.Name _ p0) _ _ p1) _ p2) [.Name _ p3] _ p4) p5, .Assign [.Attribute (.Name _ p6) _ p7] (.Name _ p8) p9] =>
    fun i => [p0, p1, p2, p3, p4, p5, p6, p7, p8, p9].getD i.val ⟨0, 0, 0, 0⟩
  | _ => fun _ => ⟨0, 0, 0, 0⟩
theorem iniS_of (d : IniD) (par : Str) (h1 : IniF d.bi d.i) (h2 : ∃ B iid bm0, ExcBaseFacts B d.nid iid bm0 ∧ Tl B d.bmB) (h3 : ∀ self, refuseLoop self "__setattr__" d.bmB = pure ())
    (h4 : defBody d.st = iniBody par d.fld (posAt d.st)) (h5 : ∃ ar, ((defArgs d.st).posonlyargs ++ (defArgs d.st).args).head? = some ar ∧ ar.arg = "self")
    (h6 : ∀ kV doc pm an ct cda cc (a b : Value), bindArgs (PySem.W.ksFn "__init__" d.qual (defArgs d.st) (iniBody par d.fld (posAt d.st)) (defScope d.st) .none kV doc pm an (.ref cda) ct cc) ⟨[a, b], []⟩ = pure [(("self" : Str), a), (par, b)])
    (h7 : (defScope d.st).names.lookup par = some .local) (h8 : ((posAt d.st 2).endLine == (posAt d.st 4).line) = true) (h9 : (par == ("self" : Str)) = false) (h10 : (par == ("__debug__" : Str)) = false)
    (s1 : (defScope d.st).names.lookup ("super" : Str) = some .globalImplicit) (s2 : (defScope d.st).names.lookup ("__class__" : Str) = some .free) (s3 : (defScope d.st).names.lookup ("self" : Str) = some .local)
    (s5 : (defScope d.st).kind = .function) (s6 : (defScope d.st).isCoroutine = false) (s7 : (defScope d.st).isGenerator = false) (s8 : ∀ x ∈ (defScope d.st).names, x.2 ≠ .cell) (s9 : (Pr.main.scope.names.lookup ("super" : Str)).isSome = false) : IniS Pr d where
  ini := h1
  mkr := h2
  pas := h3
  body := ⟨par, posAt d.st, h4, h5, h6, h7, h8, h9, h10⟩
  s1 := s1
  s2 := s2
  s3 := s3
  s5 := s5
  s6 := s6
  s7 := s7
  s8 := s8
  top := s9
theorem tlV : Tl "ValueError" (bmOf ["ValueError", "Exception", "BaseException", "object"]) := ⟨by decide +kernel, by decide +kernel, by decide +kernel⟩
theorem tlK : Tl "LookupError" (bmOf ["KeyError", "LookupError", "Exception", "BaseException", "object"]) := ⟨by decide +kernel, by decide +kernel, by decide +kernel⟩
theorem tlR : Tl "RuntimeError" (bmOf ["RuntimeError", "Exception", "BaseException", "object"]) := ⟨by decide +kernel, by decide +kernel, by decide +kernel⟩
theorem tlO : Tl "OverflowError" (bmOf ["OverflowError", "ArithmeticError", "Exception", "BaseException", "object"]) := ⟨by decide +kernel, by decide +kernel, by decide +kernel⟩
theorem tlI : Tl "IndexError" (bmOf ["IndexError", "LookupError", "Exception", "BaseException", "object"]) := ⟨by decide +kernel, by decide +kernel, by decide +kernel⟩
theorem tlA : Tl "ArithmeticError" (bmOf ["ArithmeticError", "Exception", "BaseException", "object"]) := ⟨by decide +kernel, by decide +kernel, by decide +kernel⟩
theorem is0 : IniS Pr (xd.mk1.getD 0 ⟨"", "", .Pass ⟨0, 0, 0, 0⟩, "", [], "", ""⟩) := iniS_of _ "line" ini_Value ⟨_, _, _, F.excBase_ValueError, tlV⟩ (fun _ => by kernel_rfl) (by kernel_rfl) ⟨_, rfl, by kernel_rfl⟩ (fun _ _ _ _ _ _ _ _ _ => by rfl) (by kernel_rfl) (by kernel_rfl) (by decide +kernel) (by decide +kernel) (by kernel_rfl) (by kernel_rfl) (by kernel_rfl) (by kernel_rfl) (by kernel_rfl) (by kernel_rfl) (by decide +kernel) (by kernel_rfl)
theorem is1 : IniS Pr (xd.mk1.getD 1 ⟨"", "", .Pass ⟨0, 0, 0, 0⟩, "", [], "", ""⟩) := iniS_of _ "name" ini_Key ⟨_, _, _, F.excBase_LookupError, tlK⟩ (fun _ => by kernel_rfl) (by kernel_rfl) ⟨_, rfl, by kernel_rfl⟩ (fun _ _ _ _ _ _ _ _ _ => by rfl) (by kernel_rfl) (by kernel_rfl) (by decide +kernel) (by decide +kernel) (by kernel_rfl) (by kernel_rfl) (by kernel_rfl) (by kernel_rfl) (by kernel_rfl) (by kernel_rfl) (by decide +kernel) (by kernel_rfl)
theorem is2 : IniS Pr (xd.mk1.getD 2 ⟨"", "", .Pass ⟨0, 0, 0, 0⟩, "", [], "", ""⟩) := iniS_of _ "value" ini_Runtime ⟨_, _, _, F.excBase_RuntimeError, tlR⟩ (fun _ => by kernel_rfl) (by kernel_rfl) ⟨_, rfl, by kernel_rfl⟩ (fun _ _ _ _ _ _ _ _ _ => by rfl) (by kernel_rfl) (by kernel_rfl) (by decide +kernel) (by decide +kernel) (by kernel_rfl) (by kernel_rfl) (by kernel_rfl) (by kernel_rfl) (by kernel_rfl) (by kernel_rfl) (by decide +kernel) (by kernel_rfl)
theorem is3 : IniS Pr (xd.mk1.getD 3 ⟨"", "", .Pass ⟨0, 0, 0, 0⟩, "", [], "", ""⟩) := iniS_of _ "limit" ini_Overflow ⟨_, _, _, F.excBase_OverflowError, tlO⟩ (fun _ => by kernel_rfl) (by kernel_rfl) ⟨_, rfl, by kernel_rfl⟩ (fun _ _ _ _ _ _ _ _ _ => by rfl) (by kernel_rfl) (by kernel_rfl) (by decide +kernel) (by decide +kernel) (by kernel_rfl) (by kernel_rfl) (by kernel_rfl) (by kernel_rfl) (by kernel_rfl) (by kernel_rfl) (by decide +kernel) (by kernel_rfl)
theorem is4 : IniS Pr (xd.mk1.getD 4 ⟨"", "", .Pass ⟨0, 0, 0, 0⟩, "", [], "", ""⟩) := iniS_of _ "many" ini_Index ⟨_, _, _, F.excBase_IndexError, tlI⟩ (fun _ => by kernel_rfl) (by kernel_rfl) ⟨_, rfl, by kernel_rfl⟩ (fun _ _ _ _ _ _ _ _ _ => by rfl) (by kernel_rfl) (by kernel_rfl) (by decide +kernel) (by decide +kernel) (by kernel_rfl) (by kernel_rfl) (by kernel_rfl) (by kernel_rfl) (by kernel_rfl) (by kernel_rfl) (by decide +kernel) (by kernel_rfl)
theorem is5 : IniS Pr (xd.mk1.getD 5 ⟨"", "", .Pass ⟨0, 0, 0, 0⟩, "", [], "", ""⟩) := iniS_of _ "reason" ini_Arith ⟨_, _, _, F.excBase_ArithmeticError, tlA⟩ (fun _ => by kernel_rfl) (by kernel_rfl) ⟨_, rfl, by kernel_rfl⟩ (fun _ _ _ _ _ _ _ _ _ => by rfl) (by kernel_rfl) (by kernel_rfl) (by decide +kernel) (by decide +kernel) (by kernel_rfl) (by kernel_rfl) (by kernel_rfl) (by kernel_rfl) (by kernel_rfl) (by kernel_rfl) (by decide +kernel) (by kernel_rfl)
theorem isAll : ∀ d ∈ xd.mk1, IniS Pr d := by
  intro d hd
  obtain ⟨i, hi, rfl⟩ := List.getElem_of_mem hd
  have hl : i < 6 := hi
  match i, hl with
  | 0, _ => exact is0
  | 1, _ => exact is1
  | 2, _ => exact is2
  | 3, _ => exact is3
  | 4, _ => exact is4
  | 5, _ => exact is5
theorem boots : ∀ t ∈ xd.blt, bootBuiltins t.1 = some (.type t.2) := by
  intro t ht
  have ht : t ∈ [(("ValueError" : Str), "ValueError"), ("KeyError", "KeyError"), ("RuntimeError", "RuntimeError"), ("OverflowError", "OverflowError"), ("IndexError", "IndexError"), ("ArithmeticError", "ArithmeticError"), ("LookupError", "LookupError")] := ht
  simp only [List.mem_cons, List.not_mem_nil, or_false] at ht
  rcases ht with rfl | rfl | rfl | rfl | rfl | rfl | rfl <;> kernel_rfl
theorem namesIn : ∀ t ∈ T.names, t ∈ xd.tab.names := by decide +kernel
section
variable {w : World} {K : PySem.W.Frag} {mg : Str → Option Value} {h base : Heap}
def MM (K : PySem.W.Frag) (mg : Str → Option Value) (X : Cx) : Prop := X.K = K ∧ X.mg = mg ∧ X.prog = Pr
abbrev cl (K : PySem.W.Frag) : Str → Option Addr := clOf K xd
theorem exc_ok (c : SaysX faL fnL xd file K) (KX : K.In h) (G : h.Ns mainGlobals mg) (X : Cx) (m : MM K mg X) : ExcX (cl K) T X ∧ SysK X.K := by
  obtain ⟨e1, e2, e3⟩ := m
  obtain ⟨a, b⟩ := excX_of (X := X) c e1 KX (by rw [e2]; exact G) (by rw [e3]; rfl) (by rw [e3]; exact isAll) boots
  exact ⟨⟨a.c0, a.c1, a.fl, fun t ht => a.nm t (namesIn t ht), a.sup⟩, b⟩
theorem frees (c : SaysX faL fnL xd file K) (KX : K.In h) (G : h.Ns mainGlobals mg) (x : Str) (hx : fr free0 x = true) : mg x = none := by
  have hx : x ∈ free0 := List.contains_iff_mem.mp hx
  have D := c.d
  simp only [free0, List.mem_cons, List.not_mem_nil, or_false] at hx
  rcases hx with rfl | rfl | rfl | rfl | rfl | rfl | rfl | rfl | rfl
  · exact He.free_ok KX G (D.fact 6 (f := .free "isinstance") rfl)
  · exact He.free_ok KX G (D.fact 7 (f := .free "repr") rfl)
  · exact He.free_ok KX G (D.fact 8 (f := .free "len") rfl)
  · exact He.free_ok KX G (D.fact 9 (f := .free "int") rfl)
  · exact He.free_ok KX G (D.fact 10 (f := .free "abs") rfl)
  · exact He.free_ok KX G (D.fact 11 (f := .free "range") rfl)
  · exact He.free_ok KX G (D.fact 12 (f := .free "max") rfl)
  · exact He.free_ok KX G (D.fact 13 (f := .free "min") rfl)
  · exact He.free_ok KX G (D.fact 14 (f := .free "super") rfl)
theorem hflds : ∀ c fld, (c, fld) ∈ T.mk1 → ∃ c', T.mk1.lookup c' = some fld := by
  intro c fld hc
  have hc : (c, fld) ∈ [(("ParseError" : Str), ("line" : Str)), ("UnknownName", "name"), ("InvalidNumber", "value"), ("TooMany", "limit"), ("NothingToUndo", "many"), ("Refused", "reason")] := hc
  simp only [List.mem_cons, List.not_mem_nil, or_false, Prod.mk.injEq] at hc
  rcases hc with ⟨rfl, rfl⟩ | ⟨rfl, rfl⟩ | ⟨rfl, rfl⟩ | ⟨rfl, rfl⟩ | ⟨rfl, rfl⟩ | ⟨rfl, rfl⟩
  · exact ⟨"ParseError", by kernel_rfl⟩
  · exact ⟨"UnknownName", by kernel_rfl⟩
  · exact ⟨"InvalidNumber", by kernel_rfl⟩
  · exact ⟨"TooMany", by kernel_rfl⟩
  · exact ⟨"NothingToUndo", by kernel_rfl⟩
  · exact ⟨"Refused", by kernel_rfl⟩
abbrev FnP (K : PySem.W.Frag) (x : Str) (i : Nat) (f : Addr) (fd : FuncData) : Prop := FunD K x x (defArgs (top i)) (defBody (top i)) (defScope (top i)) [] [] f fd
/-- what is known of a def behind its name -/
def Known (w : World) (K : PySem.W.Frag) (mg : Str → Option Value) (base : Heap) (k : Nat) (x : Str) (n : Nat) (den : Den) : Prop :=
  ∃ f fd ps, mg x = some (.ref f) ∧ PySem.W.keepIn K (.ref f) = true ∧ Binds K fd ps [] ∧ ps.length = n ∧ FnG Pr w K mg base CX0 k f fd ps (SpD K (cl K) n den)
theorem Known.mono {j k : Nat} {x : Str} {n : Nat} {den : Den} (h : Known w K mg base j x n den) (l : j ≤ k) : Known w K mg base k x n den := by
  obtain ⟨f, fd, ps, h1, h2, h3, h4, h5⟩ := h
  exact ⟨f, fd, ps, h1, h2, h3, h4, h5.mono l⟩
theorem Known.le {k : Nat} {x : Str} {n : Nat} {den den' : Den} (h : Known w K mg base k x n den) (l : ∀ ds g r, den' ds g = some r → den ds g = some r) : Known w K mg base k x n den' := by
  obtain ⟨f, fd, ps, h1, h2, h3, h4, h5⟩ := h
  exact ⟨f, fd, ps, h1, h2, h3, h4, h5.imp (SpD.le l)⟩
theorem gok (c : SaysX faL fnL xd file K) (KX : K.In h) (G : h.Ns mainGlobals mg) {k : Nat} {fn : Str → Option (Nat × Den)} (hf : ∀ x n den, fn x = some (n, den) → Known w K mg base k x n den) :
    GOk Pr w K mg base (cl K) k { gRoll (MM K mg) with fn := fn } where
  fn := hf
  cst := fun x d e => by cases e
  free := frees c KX G
  more := fun X h1 _ h3 h4 _ => ⟨h3, h4, h1⟩
  mblk := fun X s H scope env fp m => m
end
end K00


set_option Elab.async false
set_option linter.all false
set_option maxRecDepth 100000
set_option maxHeartbeats 4000000
/-! k00: the defs, the law -/
namespace K00
open PySem PySem.Spec PyProof.Rows L2 DL
section
variable {w : World} {K : PySem.W.Frag} {mg : Str → Option Value} {h base : Heap}
theorem sc13 : FnScope nDice ["_law_script", "_law_at"] (defScope (top 13)) := ⟨rfl, rfl, rfl, by decide +kernel, rfl, by decide +kernel, by decide +kernel⟩
theorem sc14 : FnScope nRoll ["_law_dice_here", "_law_total"] (defScope (top 14)) := ⟨rfl, rfl, rfl, by decide +kernel, rfl, by decide +kernel, by decide +kernel⟩
theorem sc15 : FnScope ["_law_dice_here", "_law_items"] ["_law_dice_here", "_law_items"] (defScope (top 15)) := ⟨rfl, rfl, rfl, by decide +kernel, rfl, by decide +kernel, by decide +kernel⟩
theorem sc16 : FnScope ["_law_error", "_law_told", "_law_one"] ["_law_error"] (defScope (top 16)) := ⟨rfl, rfl, rfl, by decide +kernel, rfl, by decide +kernel, by decide +kernel⟩
theorem sc17 : FnScope ["_law_dice_here", "_law_thing", "_law_base", "_law_due", "_law_none", "_law_others", "_law_kept", "_law_one"] ["_law_dice_here"] (defScope (top 17)) := ⟨rfl, rfl, rfl, by decide +kernel, rfl, by decide +kernel, by decide +kernel⟩
theorem sc18 : FnScope ["_law_script", "_law_spot", "_law_dice_here", "_law_turn"] ["_law_script"] (defScope (top 18)) := ⟨rfl, rfl, rfl, by decide +kernel, rfl, by decide +kernel, by decide +kernel⟩
theorem rollD_le (M : Cx → Prop) (ds : List D) (g : G) (r : BV × DL.G) (e : rollD ds g = some r) : dRoll M ds g = some r := by
  unfold rollD at e
  split at e
  · rename_i t
    split at e
    · rename_i ht
      rw [roll_eq M t g ht.1 ht.2]
      exact e
    · cases e
  · cases e
abbrev lawDen (M : Cx → Prop) : Den := dLaw M (dDice M) (dRight M (dOne M))
theorem lawTrue (M : Cx → Prop) (ns : List Int) (g : DL.G) : lawDen M [.scr ns] g = some (.st (.bl true), g) := law_ok M _ _ (fun ns i g hi => dice_ok M ns i g hi) (fun g => right_ok M _ (one_draws M) g) ns g
theorem fn_none (x : Str) (n : Nat) (den : Den) (e : (fun _ : Str => (none : Option (Nat × Den))) x = some (n, den)) : Known w K mg base 0 x n den := by cases e
variable (c : SaysX faL fnL xd file K) (KX : K.In h) (G : h.Ns mainGlobals mg)
include c KX G
theorem kDice : Known w K mg base 1 "_law_dice" 2 (dDice (MM K mg)) := by
  obtain ⟨fd, F⟩ := c.d.def_ 0 (d := dd "_law_dice" 13) rfl
  exact ⟨_, fd, ["_law_script", "_law_at"], He.glo_ok KX G (c.d.fact 0 (f := .glo "_law_dice") rfl), F.kp, FunD.bindsN F fun _ _ _ _ _ _ us hl => (match us, hl with | [_, _], _ => rfl), rfl,
    fn_read (Δ := iDice (MM K mg)) 12 F sc13 (gok c KX G fn_none) wD_ok⟩
theorem kRoll0 : Known w K mg base 1 "_law_roll" 2 (dRoll (MM K mg)) := by
  obtain ⟨fd, F⟩ := c.d.def_ 1 (d := dd "_law_roll" 14) rfl
  exact ⟨_, fd, ["_law_dice_here", "_law_total"], He.glo_ok KX G (c.d.fact 1 (f := .glo "_law_roll") rfl), F.kp, FunD.bindsN F fun _ _ _ _ _ _ us hl => (match us, hl with | [_, _], _ => rfl), rfl,
    fn_read (Δ := iRoll (MM K mg)) 12 F sc14 (gok c KX G fn_none) wD_ok⟩
theorem kRoll : Known w K mg base 1 "_law_roll" 2 rollD := (kRoll0 c KX G).le (rollD_le _)
theorem kOne : Known w K mg base 2 "_law_one_of" 2 (dOne (MM K mg)) := by
  obtain ⟨fd, F⟩ := c.d.def_ 2 (d := dd "_law_one_of" 15) rfl
  exact ⟨_, fd, ["_law_dice_here", "_law_items"], He.glo_ok KX G (c.d.fact 2 (f := .glo "_law_one_of") rfl), F.kp, FunD.bindsN F fun _ _ _ _ _ _ us hl => (match us, hl with | [_, _], _ => rfl), rfl,
    fn_read (Δ := iOne (MM K mg)) 8 F sc15 (gok c KX G fun x n den e => by
      by_cases q : (x == ("_law_roll" : Str)) = true
      · rw [if_pos q] at e
        injection e with e
        injection e with e1 e2
        subst e1 e2
        rw [eq_of_beq q]
        exact kRoll c KX G
      · rw [if_neg q] at e
        cases e) ext_none⟩
theorem kKinds : Known w K mg base 2 "_law_kinds" 1 (dKinds (MM K mg)) := by
  obtain ⟨fd, F⟩ := c.d.def_ 3 (d := dd "_law_kinds" 16) rfl
  exact ⟨_, fd, ["_law_error"], He.glo_ok KX G (c.d.fact 3 (f := .glo "_law_kinds") rfl), F.kp, FunD.bindsN F fun _ _ _ _ _ _ us hl => (match us, hl with | [_], _ => rfl), rfl,
    fn_read (Δ := iKinds (MM K mg)) 10 F sc16 (gok c KX G fun x n den e => by cases e) ((wX_ok (k := 0) (exc_ok c KX G) hflds).or wJ_ok)⟩
theorem kRight : Known w K mg base 3 "_law_right" 1 (dRight (MM K mg) (dOne (MM K mg))) := by
  obtain ⟨fd, F⟩ := c.d.def_ 4 (d := dd "_law_right" 17) rfl
  exact ⟨_, fd, ["_law_dice_here"], He.glo_ok KX G (c.d.fact 4 (f := .glo "_law_right") rfl), F.kp, FunD.bindsN F fun _ _ _ _ _ _ us hl => (match us, hl with | [_], _ => rfl), rfl,
    fn_read (Δ := iRight (MM K mg) (dOne (MM K mg))) 10 F sc17 (gok c KX G fun x n den e => by
      by_cases q : (x == ("_law_one_of" : Str)) = true
      · rw [if_pos q] at e
        injection e with e
        injection e with e1 e2
        subst e1 e2
        rw [eq_of_beq q]
        exact kOne c KX G
      · rw [if_neg q] at e
        by_cases q : (x == ("_law_kinds" : Str)) = true
        · rw [if_pos q] at e
          injection e with e
          injection e with e1 e2
          subst e1 e2
          rw [eq_of_beq q]
          exact kKinds c KX G
        · rw [if_neg q] at e
          cases e) ((wX_ok (k := 1) (exc_ok c KX G) hflds).or (wJ_ok.or wD_ok))⟩
theorem kLaw (fa : Addr) (hfa : mg ("law" : Str) = some (.ref fa)) : ∃ fd : FuncData, (∀ (s : Shared) (v : Value), BindsTo s fd ⟨[v], []⟩ [("_law_script", v)]) ∧ ∀ base : Heap, FnG Pr w K mg base CX0 4 fa fd ["_law_script"] (SpD K (cl K) 1 (lawDen (MM K mg))) := by
  obtain ⟨fd, F⟩ := c.d.def_ 5 (d := dd "law" 18) rfl
  have e := hfa.symm.trans (He.glo_ok KX G (c.d.fact 5 (f := .glo "law") rfl))
  cases e
  have b := FunD.bindsA (ps := ["_law_script"]) F fun _ _ _ _ _ _ us hl => (match us, hl with | [_], _ => rfl)
  refine ⟨fd, fun s v => b s [v] rfl, fun base => ?_⟩
  exact fn_read (Δ := iLaw (MM K mg) (dDice (MM K mg)) (dRight (MM K mg) (dOne (MM K mg)))) 10 F sc18 (gok c KX G fun x n den e => by
      by_cases q : (x == ("_law_dice" : Str)) = true
      · rw [if_pos q] at e
        injection e with e
        injection e with e1 e2
        subst e1 e2
        rw [eq_of_beq q]
        exact (kDice c KX G).mono (by decide)
      · rw [if_neg q] at e
        by_cases q : (x == ("_law_right" : Str)) = true
        · rw [if_pos q] at e
          injection e with e
          injection e with e1 e2
          subst e1 e2
          rw [eq_of_beq q]
          exact kRight c KX G
        · rw [if_neg q] at e
          cases e) ((wX_ok (k := 2) (exc_ok c KX G) hflds).or wC_ok)
end
end K00
open PySem PySem.W PySem.Calls PyProof.Rows
theorem PySem.Challenge.cw_watchkinds_k00_errors_and_what_they_keep_holds : PySem.Challenge.rw_watchkinds_k00_errors_and_what_they_keep.Holds := by
  w_on; o_law
  refine HandSHeadRun.head_any (r := OpenLaw.row PySem.Challenge.rw_watchkinds_k00_errors_and_what_they_keep) (q := view (OpenLaw.row PySem.Challenge.rw_watchkinds_k00_errors_and_what_they_keep).prog [18]) (H := K00.hk) (ob := K00.ob) (M := 6000) (loose := K00.loose) (d := HandSHeadRun.topDef (OpenLaw.row PySem.Challenge.rw_watchkinds_k00_errors_and_what_they_keep).prog 18) (kwd := []) K00.ob_eq
    (by kernel_rfl) (fun s => by kernel_rfl) K00.run (by kernel_rfl) (by kernel_rfl) (by kernel_rfl) (by rfl) (by first | assumption | decide +kernel) (by decide +kernel) ⟨rfl, rfl, rfl, rfl, rfl, by decide +kernel⟩ ?hw ?hc
  case hw => w_witness2
  case hc =>
    refine DL.walk_ofG (l := PySem.Challenge.rw_watchkinds_k00_errors_and_what_they_keep) (n := 63) (k := 4) (x := "_law_script") (CX := L2.CX0) rfl (by decide) (by kernel_rfl) ⟨rfl, by decide, by decide⟩ ?F (fun _ _ _ _ z => z)
    intro w mg fa h Y G hmg0
    obtain ⟨K, KX, c⟩ := Y
    have hmg : mg ("law" : PySem.Str) = some (.ref fa) := by
      have e : (HandSHeadRun.topDef (OpenLaw.row PySem.Challenge.rw_watchkinds_k00_errors_and_what_they_keep).prog 18).name = ("law" : PySem.Str) := by kernel_rfl
      rw [← e]
      exact hmg0
    obtain ⟨fd, hb, hF⟩ := K00.kLaw (w := w) c KX G fa hmg
    refine ⟨K, fd, DL.SpD K (K00.cl K) 1 (K00.lawDen (K00.MM K mg)), KX, hb, fun H a ns hl _ hS => ?_, fun base _ _ => hF base⟩
    refine ⟨⟨K, K00.cl K, none⟩, ⟨0, 0, 0⟩, [.scr ns], H, .st (.bl true), ⟨0, 0, 0⟩, rfl, rfl, DL.Ex.refl _, (fun a e => by cases e), .cons (.scr hS) .nil, rfl, K00.lawTrue _ ns _, ?_⟩
    intro v H' Hs' _ _ _ _ _ hr
    cases hr
    rfl

