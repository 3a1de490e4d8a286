import PyProof.Rows.All
import Wide.All
import OpenK.AllK
import Wide.FinOn
import HandS.ForMost
import HandS.Exc
import HandS.ExcOwn
import HandS.WordsExc
import HandS.Wide
import HandS.Style
import HandS.TupAny
import HandS.Deep
import PyProof.LongRange
import HandS.IsInst
import HandS.RaiseMore
import HandS.SortInts
import HandS.TupLen
import HandS.WordsDict
import KE.SortData
import HandS.Remove
import HandS.SetFor
import HandS.Ends
import HandS.HeadEnd
import HandS.Defaults
import KE.KExcIs
import HandS.CallLocal
import HandS.Conv
import PyProof.Rows.SumAny
import PyProof.WalksMore
import PySem.Challenge.RW_latewood_k62_bounds_of_how_many
set_option Elab.async false
set_option linter.all false
set_option maxRecDepth 100000
/-! Value semantics, 1: data, trees with owners, regions. -/
namespace VS
open PySem PySem.Spec PyProof.Rows L2

abbrev D := PyData
abbrev ASet := Addr → Prop
def NoA : ASet := fun _ => False
def OneA (a : Addr) (S : ASet) : ASet := fun b => b = a ∨ S b
def TwoA (S S' : ASet) : ASet := fun b => S b ∨ S' b
def Apart (S S' : ASet) : Prop := ∀ b, S b → S' b → False
def Sub (R H : Hp) : Prop := ∀ a o, R a = some o → H a = some o
theorem Sub.refl (H : Hp) : Sub H H := fun _ _ h => h
theorem Sub.trans {A B C : Hp} (h : Sub A B) (k : Sub B C) : Sub A C := fun a o e => k a o (h a o e)
def isD : HO → Bool
  | .dK _ => true
  | .dT _ => true
  | _ => false
/-- at a stands o, or a dict that is locked while it is walked -/
def Rdd (H : Hp) (a : Addr) (o : HO) : Prop := H a = some o ∨ (isD o = true ∧ ∃ ob, H a = some (.frz ob o))
def Reg (R : Hp) (a : Addr) (o : HO) : Prop := R a = some o
def RSub (R H : Hp) : Prop := ∀ a o, R a = some o → Rdd H a o
theorem Rdd.sub {H H' : Hp} (s : Sub H H') {a : Addr} {o : HO} (h : Rdd H a o) : Rdd H' a o := by
  rcases h with h | ⟨d, ob, h⟩
  · exact .inl (s _ _ h)
  · exact .inr ⟨d, ob, s _ _ h⟩
theorem Sub.sqL {K : PySem.W.Frag} {R H : Hp} (s : Sub R H) {a : Addr} {xs : List V} (h : SqL K R a xs) : SqL K H a xs := by
  rcases h with (h | ⟨o, h⟩) | h
  · exact .inl (.inl (s _ _ h))
  · exact .inl (.inr ⟨o, s _ _ h⟩)
  · exact .inr h
theorem RSub.sqL {K : PySem.W.Frag} {R H : Hp} (s : RSub R H) {a : Addr} {xs : List V} (h : SqL K R a xs) : SqL K H a xs := by
  rcases h with (h | ⟨o, h⟩) | h
  · rcases s _ _ h with e | ⟨d, _⟩
    · exact .inl (.inl e)
    · cases d
  · rcases s _ _ h with e | ⟨d, _⟩
    · exact .inl (.inr ⟨o, e⟩)
    · cases d
  · exact .inr h
theorem RSub.refl (H : Hp) : RSub H H := fun _ _ h => .inl h
theorem RSub.of {R H : Hp} (s : Sub R H) : RSub R H := fun a o h => .inl (s a o h)
theorem RSub.trans {A B C : Hp} (h : RSub A B) (k : Sub B C) : RSub A C := fun a o e => (h a o e).sub k
theorem Sub.rtrans {A B C : Hp} (h : Sub A B) (k : RSub B C) : RSub A C := fun a o e => k a o (h a o e)
theorem RSub.ex {R H : Hp} (s : RSub R H) {a : Addr} {o : HO} (h : R a = some o) (n : isD o = false) : H a = some o := by
  rcases s a o h with e | ⟨d, _⟩
  · exact e
  · rw [n] at d; cases d
theorem RSub.there {R H : Hp} (s : RSub R H) {a : Addr} {o : HO} (h : R a = some o) : ∃ u, H a = some u := by
  rcases s a o h with e | ⟨_, ob, e⟩
  · exact ⟨_, e⟩
  · exact ⟨_, e⟩
theorem Rdd.rd {H : Hp} {a : Addr} {o : HO} (h : Rdd H a o) : Rd H a o := by
  rcases h with e | ⟨_, ob, e⟩
  · exact .inl e
  · exact .inr ⟨ob, e⟩
theorem Rdd.ex {H : Hp} {a : Addr} {o : HO} (h : Rdd H a o) (n : isD o = false) : H a = some o := by
  rcases h with e | ⟨d, _⟩
  · exact e
  · rw [n] at d; cases d

def keyD : Key → D
  | .inl i => .int i
  | .inr x => .str x
def keysD (ks : List Key) : D := .tuple (ks.map keyD)

abbrev Rdr := Addr → HO → Prop
mutual
/-- the value v stands for the data d; M tells what may be read -/
inductive Dat (M : Rdr) : V → D → Prop
  | non : Dat M .non .none
  | bl (b : Bool) : Dat M (.bl b) (.bool b)
  | int (i : Int) : Dat M (.int i) (.int i)
  | str (x : Str) : Dat M (.str x) (.str x)
  | lst {a : Addr} {xs : List V} {ds : List D} : M a (.lst xs) → DatAll M xs ds → Dat M (.ref a) (.list ds)
  | tup {a : Addr} {xs : List V} {ds : List D} : M a (.tup xs) → DatAll M xs ds → Dat M (.ref a) (.tuple ds)
  | dK {a : Addr} {kvs : List (Key × V)} {es : List (D × D)} : M a (.dK kvs) → DatK M kvs es → Dat M (.ref a) (.dict es)
  | dT {a : Addr} {kvs : List (List Key × V)} {es : List (D × D)} : M a (.dT kvs) → DatT M kvs es → Dat M (.ref a) (.dict es)
inductive DatAll (M : Rdr) : List V → List D → Prop
  | nil : DatAll M [] []
  | cons {v : V} {vs : List V} {d : D} {ds : List D} : Dat M v d → DatAll M vs ds → DatAll M (v :: vs) (d :: ds)
inductive DatK (M : Rdr) : List (Key × V) → List (D × D) → Prop
  | nil : DatK M [] []
  | cons {k : Key} {v : V} {r : List (Key × V)} {d : D} {es : List (D × D)} : Dat M v d → DatK M r es → DatK M ((k, v) :: r) ((keyD k, d) :: es)
inductive DatT (M : Rdr) : List (List Key × V) → List (D × D) → Prop
  | nil : DatT M [] []
  | cons {k : List Key} {v : V} {r : List (List Key × V)} {d : D} {es : List (D × D)} : Dat M v d → DatT M r es → DatT M ((k, v) :: r) ((keysD k, d) :: es)
end

section
variable {M M' : Rdr}
mutual
theorem Dat.mono (s : ∀ a o, M a o → M' a o) : ∀ {v : V} {d : D}, Dat M v d → Dat M' v d
  | _, _, .non => .non
  | _, _, .bl b => .bl b
  | _, _, .int i => .int i
  | _, _, .str x => .str x
  | _, _, .lst h r => .lst (s _ _ h) (DatAll.mono s r)
  | _, _, .tup h r => .tup (s _ _ h) (DatAll.mono s r)
  | _, _, .dK h r => .dK (s _ _ h) (DatK.mono s r)
  | _, _, .dT h r => .dT (s _ _ h) (DatT.mono s r)
theorem DatAll.mono (s : ∀ a o, M a o → M' a o) : ∀ {vs : List V} {ds : List D}, DatAll M vs ds → DatAll M' vs ds
  | _, _, .nil => .nil
  | _, _, .cons a b => .cons (Dat.mono s a) (DatAll.mono s b)
theorem DatK.mono (s : ∀ a o, M a o → M' a o) : ∀ {vs : List (Key × V)} {ds : List (D × D)}, DatK M vs ds → DatK M' vs ds
  | _, _, .nil => .nil
  | _, _, .cons a b => .cons (Dat.mono s a) (DatK.mono s b)
theorem DatT.mono (s : ∀ a o, M a o → M' a o) : ∀ {vs : List (List Key × V)} {ds : List (D × D)}, DatT M vs ds → DatT M' vs ds
  | _, _, .nil => .nil
  | _, _, .cons a b => .cons (Dat.mono s a) (DatT.mono s b)
end
theorem DatAll.length : ∀ {vs : List V} {ds : List D}, DatAll M vs ds → vs.length = ds.length
  | _, _, .nil => rfl
  | _, _, .cons _ b => congrArg (· + 1) b.length
theorem DatAll.get : ∀ {vs : List V} {ds : List D} {i : Nat} {d : D}, DatAll M vs ds → ds[i]? = some d → ∃ v, vs[i]? = some v ∧ Dat M v d
  | _, _, _, _, .nil, e => by simp at e
  | _, _, 0, _, .cons a _, e => by simp at e; subst e; exact ⟨_, rfl, a⟩
  | _, _, i + 1, d, .cons _ b, e => by
    obtain ⟨v, h1, h2⟩ := DatAll.get (i := i) (d := d) b (by simpa using e)
    exact ⟨v, by simpa using h1, h2⟩
theorem DatAll.append : ∀ {vs us : List V} {ds es : List D}, DatAll M vs ds → DatAll M us es → DatAll M (vs ++ us) (ds ++ es)
  | _, _, _, _, .nil, s => s
  | _, _, _, _, .cons a b, s => .cons a (b.append s)
theorem DatAll.take : ∀ {vs : List V} {ds : List D} (n : Nat), DatAll M vs ds → DatAll M (vs.take n) (ds.take n)
  | _, _, 0, _ => .nil
  | _, _, _ + 1, .nil => .nil
  | _, _, n + 1, .cons a b => .cons a (b.take n)
theorem DatAll.drop : ∀ {vs : List V} {ds : List D} (n : Nat), DatAll M vs ds → DatAll M (vs.drop n) (ds.drop n)
  | _, _, 0, r => r
  | _, _, _ + 1, .nil => .nil
  | _, _, n + 1, .cons _ b => b.drop n
theorem DatAll.reverse : ∀ {vs : List V} {ds : List D}, DatAll M vs ds → DatAll M vs.reverse ds.reverse
  | _, _, .nil => .nil
  | _, _, .cons a b => by
    rw [List.reverse_cons, List.reverse_cons]
    exact b.reverse.append (.cons a .nil)
theorem DatAll.mem : ∀ {vs : List V} {ds : List D} {d : D}, DatAll M vs ds → d ∈ ds → ∃ v, v ∈ vs ∧ Dat M v d
  | _, _, _, .nil, h => by simp at h
  | _, _, d, .cons (v := v) a b, h => by
    rcases List.mem_cons.mp h with rfl | h
    · exact ⟨v, List.mem_cons_self, a⟩
    · obtain ⟨v', h1, h2⟩ := b.mem h
      exact ⟨v', List.mem_cons_of_mem _ h1, h2⟩
end

/-! ### exceptions -/
/-- an exception: the name of its class, its field -/
inductive Ex where
  | own (C : Str)
  | fld (C : Str) (f : Str) (d : D)
/-- what stands at the module's level under a name -/
def Named (K : PySem.W.Frag) (x : Str) (a : Addr) : Prop := PySem.W.nsIn K mainGlobals x = some (some (.ref a))
def ExR (K : PySem.W.Frag) (R H : Hp) : Ex → Value → Option Addr → Prop
  | .own C, c, d => (∃ C', Named K C C' ∧ c = .ref C') ∧ d = none
  | .fld C f x, c, d => (∃ C', Named K C C' ∧ c = .ref C') ∧ ∃ a v, d = some a ∧ R a = some (.xd [(f, v)]) ∧ Dat (Reg R) v x
/-- a caught exception, by its one object -/
def excIs (a : Addr) (c : Value) (d : Option Addr) : Heap → Prop := fun h => ∃ oe vs, h.get? a = some oe ∧ oe.cls = c ∧ oe.dict = d ∧ oe.data = .fields vs
theorem ExR.mono {K : PySem.W.Frag} {R R' H H' : Hp} (s : Sub R R') (s2 : Sub H H') : ∀ {ex : Ex} {c : Value} {d : Option Addr}, ExR K R H ex c d → ExR K R' H' ex c d
  | .own _, _, _, h => h
  | .fld _ _ _, _, _, ⟨h, a, v, e, x, y⟩ => ⟨h, a, v, e, s _ _ x, y.mono s⟩
/-! ### trees with owners -/
inductive T where
  | un
  | scr (ns : List Int)
  | dat (d : D)
  | fn (x : Str)
  | exc (ex : Ex)
  | lst (l : List T)
  | tup (l : List T)
  | dct (l : List (D × T))
  | ins (C : Str) (fs : List (Str × T))
  | vw (t : T)

mutual
/-- v stands for the tree t: data lies in R, what is owned in H at the addresses S -/
inductive Rep (K : PySem.W.Frag) (R : Hp) : Hp → T → V → ASet → Prop
  | un {H : Hp} {v : V} : Rep K R H .un v NoA
  | scr {H : Hp} {a : Addr} {ns : List Int} : SqL K R a (ns.map V.int) → Rep K R H (.scr ns) (.ref a) NoA
  | dat {H : Hp} {v : V} {d : D} : Dat (Reg R) v d → Rep K R H (.dat d) v NoA
  | fn {H : Hp} {a : Addr} {x : Str} : Named K x a → Rep K R H (.fn x) (.ref a) NoA
  | exc {H : Hp} {a : Addr} {c : Value} {d : Option Addr} {ex : Ex} : R a = some (.ext (excIs a c d)) → ExR K R R ex c d → Rep K R H (.exc ex) (.ref a) NoA
  | lst {H : Hp} {a : Addr} {vs : List V} {ts : List T} {S : ASet} : H a = some (.lst vs) → RepAll K R H ts vs S → ¬ S a → Rep K R H (.lst ts) (.ref a) (OneA a S)
  | tup {H : Hp} {a : Addr} {vs : List V} {ts : List T} {S : ASet} : R a = some (.tup vs) → RepAll K R H ts vs S → Rep K R H (.tup ts) (.ref a) S
  | dK {H : Hp} {a : Addr} {kvs : List (Key × V)} {es : List (D × T)} {S : ASet} : H a = some (.dK kvs) → RepK K R H es kvs S → ¬ S a → Rep K R H (.dct es) (.ref a) (OneA a S)
  | dT {H : Hp} {a : Addr} {kvs : List (List Key × V)} {es : List (D × T)} {S : ASet} : H a = some (.dT kvs) → RepT K R H es kvs S → ¬ S a → Rep K R H (.dct es) (.ref a) (OneA a S)
  | ins {H : Hp} {a dx C : Addr} {x : Str} {fs : List (Str × V)} {ts : List (Str × T)} {S : ASet} : Named K x C → H a = some (.ins C dx fs) → H dx = some (.own a) → RepF K R H ts fs S → ¬ S a → ¬ S dx → dx ≠ a → Rep K R H (.ins x ts) (.ref a) (OneA a (OneA dx S))
inductive RepAll (K : PySem.W.Frag) (R : Hp) : Hp → List T → List V → ASet → Prop
  | nil {H : Hp} : RepAll K R H [] [] NoA
  | cons {H : Hp} {t : T} {v : V} {ts : List T} {vs : List V} {S S' : ASet} : Rep K R H t v S → RepAll K R H ts vs S' → Apart S S' → RepAll K R H (t :: ts) (v :: vs) (TwoA S S')
inductive RepK (K : PySem.W.Frag) (R : Hp) : Hp → List (D × T) → List (Key × V) → ASet → Prop
  | nil {H : Hp} : RepK K R H [] [] NoA
  | cons {H : Hp} {k : Key} {t : T} {v : V} {ts : List (D × T)} {vs : List (Key × V)} {S S' : ASet} : Rep K R H t v S → RepK K R H ts vs S' → Apart S S' → RepK K R H ((keyD k, t) :: ts) ((k, v) :: vs) (TwoA S S')
inductive RepT (K : PySem.W.Frag) (R : Hp) : Hp → List (D × T) → List (List Key × V) → ASet → Prop
  | nil {H : Hp} : RepT K R H [] [] NoA
  | cons {H : Hp} {k : List Key} {t : T} {v : V} {ts : List (D × T)} {vs : List (List Key × V)} {S S' : ASet} : Rep K R H t v S → RepT K R H ts vs S' → Apart S S' → RepT K R H ((keysD k, t) :: ts) ((k, v) :: vs) (TwoA S S')
inductive RepF (K : PySem.W.Frag) (R : Hp) : Hp → List (Str × T) → List (Str × V) → ASet → Prop
  | nil {H : Hp} : RepF K R H [] [] NoA
  | cons {H : Hp} {f : Str} {t : T} {v : V} {ts : List (Str × T)} {vs : List (Str × V)} {S S' : ASet} : Rep K R H t v S → RepF K R H ts vs S' → Apart S S' → RepF K R H ((f, t) :: ts) ((f, v) :: vs) (TwoA S S')
end

section
variable {K : PySem.W.Frag} {R R' H H' : Hp}
mutual
/-- the frame: what is owned stays, the data's region may grow -/
theorem Rep.mono (s : Sub R R') : ∀ {H H' : Hp} {t : T} {v : V} {S : ASet}, Rep K R H t v S → (∀ a, S a → H' a = H a) → Rep K R' H' t v S
  | _, _, _, _, _, .un, _ => .un
  | _, _, _, _, _, .scr h, _ => .scr (s.sqL h)
  | _, _, _, _, _, .dat h, _ => .dat (h.mono s)
  | _, _, _, _, _, .fn n, _ => .fn n
  | _, _, _, _, _, .exc h e, _ => .exc (s _ _ h) (e.mono s s)
  | _, _, _, _, _, .lst h r n, k => .lst ((k _ (.inl rfl)).trans h) (RepAll.mono s r fun a x => k a (.inr x)) n
  | _, _, _, _, _, .tup h r, k => .tup (s _ _ h) (RepAll.mono s r k)
  | _, _, _, _, _, .dK h r n, k => .dK ((k _ (.inl rfl)).trans h) (RepK.mono s r fun a x => k a (.inr x)) n
  | _, _, _, _, _, .dT h r n, k => .dT ((k _ (.inl rfl)).trans h) (RepT.mono s r fun a x => k a (.inr x)) n
  | _, _, _, _, _, .ins z h h2 r n n2 n3, k => .ins z ((k _ (.inl rfl)).trans h) ((k _ (.inr (.inl rfl))).trans h2) (RepF.mono s r fun a x => k a (.inr (.inr x))) n n2 n3
theorem RepAll.mono (s : Sub R R') : ∀ {H H' : Hp} {t : List T} {v : List V} {S : ASet}, RepAll K R H t v S → (∀ a, S a → H' a = H a) → RepAll K R' H' t v S
  | _, _, _, _, _, .nil, _ => .nil
  | _, _, _, _, _, .cons a b n, k => .cons (Rep.mono s a fun x h => k x (.inl h)) (RepAll.mono s b fun x h => k x (.inr h)) n
theorem RepK.mono (s : Sub R R') : ∀ {H H' : Hp} {t : List (D × T)} {v : List (Key × V)} {S : ASet}, RepK K R H t v S → (∀ a, S a → H' a = H a) → RepK K R' H' t v S
  | _, _, _, _, _, .nil, _ => .nil
  | _, _, _, _, _, .cons a b n, k => .cons (Rep.mono s a fun x h => k x (.inl h)) (RepK.mono s b fun x h => k x (.inr h)) n
theorem RepT.mono (s : Sub R R') : ∀ {H H' : Hp} {t : List (D × T)} {v : List (List Key × V)} {S : ASet}, RepT K R H t v S → (∀ a, S a → H' a = H a) → RepT K R' H' t v S
  | _, _, _, _, _, .nil, _ => .nil
  | _, _, _, _, _, .cons a b n, k => .cons (Rep.mono s a fun x h => k x (.inl h)) (RepT.mono s b fun x h => k x (.inr h)) n
theorem RepF.mono (s : Sub R R') : ∀ {H H' : Hp} {t : List (Str × T)} {v : List (Str × V)} {S : ASet}, RepF K R H t v S → (∀ a, S a → H' a = H a) → RepF K R' H' t v S
  | _, _, _, _, _, .nil, _ => .nil
  | _, _, _, _, _, .cons a b n, k => .cons (Rep.mono s a fun x h => k x (.inl h)) (RepF.mono s b fun x h => k x (.inr h)) n
end
mutual
/-- what is owned is there -/
theorem Rep.there : ∀ {H : Hp} {t : T} {v : V} {S : ASet}, Rep K R H t v S → ∀ a, S a → ∃ o, H a = some o
  | _, _, _, _, .un, _, h => h.elim
  | _, _, _, _, .scr _, _, h => h.elim
  | _, _, _, _, .dat _, _, h => h.elim
  | _, _, _, _, .fn _, _, h => h.elim
  | _, _, _, _, .exc _ _, _, h => h.elim
  | _, _, _, _, .lst e r _, _, h => h.elim (fun q => ⟨_, q ▸ e⟩) fun q => RepAll.there r _ q
  | _, _, _, _, .tup _ r, _, h => RepAll.there r _ h
  | _, _, _, _, .dK e r _, _, h => h.elim (fun q => ⟨_, q ▸ e⟩) fun q => RepK.there r _ q
  | _, _, _, _, .dT e r _, _, h => h.elim (fun q => ⟨_, q ▸ e⟩) fun q => RepT.there r _ q
  | _, _, _, _, .ins _ e e2 r _ _ _, _, h => h.elim (fun q => ⟨_, q ▸ e⟩) fun h => h.elim (fun q => ⟨_, q ▸ e2⟩) fun q => RepF.there r _ q
theorem RepAll.there : ∀ {H : Hp} {t : List T} {v : List V} {S : ASet}, RepAll K R H t v S → ∀ a, S a → ∃ o, H a = some o
  | _, _, _, _, .nil, _, h => h.elim
  | _, _, _, _, .cons x y _, _, h => h.elim (fun q => Rep.there x _ q) fun q => RepAll.there y _ q
theorem RepK.there : ∀ {H : Hp} {t : List (D × T)} {v : List (Key × V)} {S : ASet}, RepK K R H t v S → ∀ a, S a → ∃ o, H a = some o
  | _, _, _, _, .nil, _, h => h.elim
  | _, _, _, _, .cons x y _, _, h => h.elim (fun q => Rep.there x _ q) fun q => RepK.there y _ q
theorem RepT.there : ∀ {H : Hp} {t : List (D × T)} {v : List (List Key × V)} {S : ASet}, RepT K R H t v S → ∀ a, S a → ∃ o, H a = some o
  | _, _, _, _, .nil, _, h => h.elim
  | _, _, _, _, .cons x y _, _, h => h.elim (fun q => Rep.there x _ q) fun q => RepT.there y _ q
theorem RepF.there : ∀ {H : Hp} {t : List (Str × T)} {v : List (Str × V)} {S : ASet}, RepF K R H t v S → ∀ a, S a → ∃ o, H a = some o
  | _, _, _, _, .nil, _, h => h.elim
  | _, _, _, _, .cons x y _, _, h => h.elim (fun q => Rep.there x _ q) fun q => RepF.there y _ q
end
end

/-- a slot's tree, an argument's: owned, or only looked at in P -/
inductive RepA (K : PySem.W.Frag) (R P H : Hp) : T → V → ASet → Prop
  | own {t : T} {v : V} {S : ASet} : Rep K R H t v S → RepA K R P H t v S
  | vw {t : T} {v : V} {S : ASet} : Rep K R P t v S → RepA K R P H (.vw t) v NoA
inductive RepAs (K : PySem.W.Frag) (R P H : Hp) : List T → List V → ASet → Prop
  | nil : RepAs K R P H [] [] NoA
  | cons {t : T} {v : V} {ts : List T} {vs : List V} {S S' : ASet} : RepA K R P H t v S → RepAs K R P H ts vs S' → Apart S S' → RepAs K R P H (t :: ts) (v :: vs) (TwoA S S')
section
variable {K : PySem.W.Frag} {R R' P H H' : Hp} {t : T} {v : V} {S : ASet}
theorem RepA.mono (s : Sub R R') : RepA K R P H t v S → (∀ a, S a → H' a = H a) → RepA K R' P H' t v S
  | .own r, k => .own (r.mono s k)
  | .vw r, _ => .vw (r.mono s fun _ _ => rfl)
theorem RepA.there : RepA K R P H t v S → ∀ a, S a → ∃ o, H a = some o
  | .own r => r.there
  | .vw _ => fun _ h => h.elim
theorem Rep.not_vw {u : T} (h : Rep K R H (.vw u) v S) : False := nomatch h
end
end VS

set_option Elab.async false
set_option linter.all false
set_option maxRecDepth 100000
/-! Value semantics, 2: the state of a frame, what an expression does. -/
namespace VS
open PySem L2

inductive RepSl (K : PySem.W.Frag) (R P H : Hp) : List T → St → ASet → Prop
  | nil : RepSl K R P H [] [] NoA
  | no {x : Option V} {es : List T} {σ : St} {S : ASet} : RepSl K R P H es σ S → RepSl K R P H (.un :: es) (x :: σ) S
  | so {t : T} {v : V} {es : List T} {σ : St} {S S' : ASet} : RepA K R P H t v S → RepSl K R P H es σ S' → Apart S S' → RepSl K R P H (t :: es) (some v :: σ) (TwoA S S')
/-- the frame: env tells the slots σ -/
structure SR (K : PySem.W.Frag) (env : List T) (σ : St) (R P H : Hp) (S : ASet) : Prop where
  sl : RepSl K R P H env σ S
  rh : RSub R H
  ph : RSub P H
  sf : ∀ a, S a → R a = none ∧ P a = none
/-- from R, H, with S to be written, to R', H', S' -/
structure Fr (R H : Hp) (S : ASet) (R' H' : Hp) (S' : ASet) : Prop where
  keep : ∀ a o, H a = some o → ¬ S a → H' a = some o
  rr : Sub R R'
  nw : ∀ a, R' a ≠ none → R a ≠ none ∨ S a ∨ H a = none
  sub : ∀ a, S' a → S a ∨ H a = none
theorem none_or {H : Hp} (a : Addr) : H a = none ∨ ∃ o, H a = some o := by
  cases e : H a with
  | none => exact .inl rfl
  | some o => exact .inr ⟨o, rfl⟩
theorem Fr.refl (R H : Hp) (S : ASet) : Fr R H S R H S := ⟨fun _ _ h _ => h, Sub.refl R, fun _ h => .inl h, fun _ h => .inl h⟩
theorem Fr.trans {R H R1 H1 R2 H2 : Hp} {S S1 S2 : ASet} (f : Fr R H S R1 H1 S1) (g : Fr R1 H1 S1 R2 H2 S2) : Fr R H S R2 H2 S2 := by
  have up : ∀ a, S1 a ∨ H1 a = none → S a ∨ H a = none := fun a h => by
    rcases h with h | h
    · exact f.sub a h
    · rcases none_or (H := H) a with q | ⟨o, q⟩
      · exact .inr q
      · by_cases hs : S a
        · exact .inl hs
        · rw [f.keep a o q hs] at h; cases h
  refine ⟨fun a o h n => ?_, f.rr.trans g.rr, fun a h => ?_, fun a h => up a (g.sub a h)⟩
  · refine g.keep a o (f.keep a o h n) fun q => ?_
    rcases f.sub a q with z | z
    · exact n z
    · rw [h] at z; cases z
  · rcases g.nw a h with q | q
    · exact f.nw a q
    · exact .inr (up a q)
theorem Fr.widen {R H R' H' : Hp} {S S' Z : ASet} (f : Fr R H S R' H' S') (h : ∀ a, S a → Z a) : Fr R H Z R' H' S' :=
  ⟨fun a o e n => f.keep a o e fun q => n (h a q), f.rr, fun a e => (f.nw a e).imp_right fun q => q.imp_left (h a), fun a e => (f.sub a e).imp_left (h a)⟩
theorem Fr.narrow {R H R' H' : Hp} {S S' Z : ASet} (f : Fr R H S R' H' S') (h : ∀ a, Z a → S' a) : Fr R H S R' H' Z := ⟨f.keep, f.rr, f.nw, fun a e => f.sub a (h a e)⟩

/-- a value: a fresh one (its owner is who holds it), a look at what a slot owns, a look at what was handed in -/
inductive PV where
  | fr (t : T)
  | vw (t : T)
  | pv (t : T)
def PV.held : PV → Bool
  | .fr _ => true
  | .vw _ => false
  | .pv _ => true
def PV.tr : PV → T
  | .fr t => t
  | .vw t => t
  | .pv t => t
def PvR (K : PySem.W.Frag) (R P H : Hp) (S : ASet) : PV → V → ASet → Prop
  | .fr t, v, Z => Rep K R H t v Z
  | .vw t, v, Z => Z = NoA ∧ ∃ S0, Rep K R H t v S0 ∧ ∀ a, S0 a → S a
  | .pv t, v, Z => Z = NoA ∧ ∃ S0, Rep K R P t v S0
/-- how the slot's tree is read -/
def mkV : T → Option PV
  | .un => none
  | .scr ns => some (.fr (.scr ns))
  | .dat d => some (.fr (.dat d))
  | .fn a => some (.fr (.fn a))
  | .exc a => some (.fr (.exc a))
  | .vw (.scr ns) => some (.fr (.scr ns))
  | .vw (.dat d) => some (.fr (.dat d))
  | .vw (.fn a) => some (.fr (.fn a))
  | .vw (.exc a) => some (.fr (.exc a))
  | .vw .un => none
  | .vw t => some (.pv t)
  | t => some (.vw t)

inductive Er where
  | ok (q : Bool) (p : PV) (e : List T)
  | x (ex : Ex) (e : List T)
abbrev Es := List T → Option Er

/-- a step of an expression: from env, R, H, S to env', R', H', S' and a value of its own at Z -/
structure Stp (K : PySem.W.Frag) (σ : St) (P : Hp) (env : List T) (R H : Hp) (S : ASet) (q : Bool) (env' : List T) (R' H' : Hp) (S' Z : ASet) : Prop where
  sr : SR K env' σ R' P H' S'
  ap : Apart Z S'
  zf : ∀ a, Z a → R' a = none ∧ P a = none
  fr : Fr R H S R' H' (TwoA S' Z)
  qt : q = true → env' = env ∧ Sub H H' ∧ S' = S ∧ ∀ a, Z a → H a = none
def ErP (K : PySem.W.Frag) (W : WX) (σ : St) (P : Hp) (env : List T) (R H : Hp) (S : ASet) (Q : VK) : Er → Prop
  | .ok q p env' => ∀ v R' H' S' Z, Stp K σ P env R H S q env' R' H' S' Z → PvR K R' P H' S' p v Z → Q v H'
  | .x ex env' => ∀ c d R' H' S', SR K env' σ R' P H' S' → Fr R H S R' H' S' → ExR K R' H' ex c d → W c d σ H'
def rdE (K : PySem.W.Frag) (W : WX) (f : Es) : TE := fun σ H Q => ∃ env R P S r, SR K env σ R P H S ∧ f env = some r ∧ ErP K W σ P env R H S Q r
/-- the expression e does f -/
abbrev EJ (X : Cx) (W : WX) (e : Expr) (f : Es) : Prop := PE X e (rdE X.K W f)
theorem PE.imp {X : Cx} {e : Expr} {t t' : TE} (h : PE X e t) (k : ∀ σ H Q, t' σ H Q → t σ H Q) : PE X e t' := ⟨fun pins s σ H Q I q => h.run pins s σ H Q I (k σ H Q q)⟩
theorem PA.imp {X : Cx} {e : List Expr} {t t' : TA} (h : PA X e t) (k : ∀ σ H Q, t' σ H Q → t σ H Q) : PA X e t' := ⟨fun pos pins s σ H Q I q => h.run pos pins s σ H Q I (k σ H Q q)⟩
theorem PT.imp {X : Cx} {e : Expr} {t t' : TT} (h : PT X e t) (k : ∀ σ H Q, t' σ H Q → t σ H Q) : PT X e t' := ⟨fun pins s σ H Q I q => h.run pins s σ H Q I (k σ H Q q)⟩
theorem PW.imp {X : Cx} {e : Expr} {t t' : TT} (h : PW X e t) (k : ∀ σ H Q, t' σ H Q → t σ H Q) : PW X e t' := ⟨fun w pins s σ H Q I q => h.run w pins s σ H Q I (k σ H Q q)⟩
theorem PS.imp {X : Cx} {e : Stmt} {t t' : TS} (h : PS X e t) (k : ∀ σ H Q, t' Q σ H → t Q σ H) : PS X e t' := ⟨fun pins s σ H Q I q => h.run pins s σ H Q I (k σ H Q q)⟩
theorem PSs.imp {X : Cx} {e : List Stmt} {t t' : TS} (h : PSs X e t) (k : ∀ σ H Q, t' Q σ H → t Q σ H) : PSs X e t' := ⟨fun pins s σ H Q I q => h.run pins s σ H Q I (k σ H Q q)⟩

section
variable {K : PySem.W.Frag} {W : WX} {σ : St} {P R H R' H' R2 H2 : Hp} {env env' env2 : List T} {S S' S2 Z Z' : ASet} {q q' : Bool} {p : PV} {v : V} {t : T}
theorem noA_apart : Apart NoA S := fun _ h => h.elim
theorem two_no : TwoA S NoA = S := funext fun a => propext ⟨fun h => h.elim id False.elim, .inl⟩
theorem no_two : TwoA NoA S = S := funext fun a => propext ⟨fun h => h.elim False.elim id, .inr⟩
theorem SR.stp (s : SR K env σ R P H S) : Stp K σ P env R H S true env R H S NoA :=
  ⟨s, noA_apart, fun _ h => h.elim, by rw [two_no]; exact Fr.refl R H S, fun _ => ⟨rfl, Sub.refl H, rfl, fun _ h => h.elim⟩⟩
/-- a fresh value stays over a further step -/
theorem Stp.hold (s : Stp K σ P env R H S q env' R' H' S' Z) (r : ∀ a, Z a → ∃ o, H' a = some o) (g : Fr R' H' S' R2 H2 S2) :
    (∀ a, Z a → H2 a = H' a) ∧ (∀ a, Z a → R2 a = none) ∧ Apart Z S2 := by
  refine ⟨fun a h => ?_, fun a h => ?_, fun a h k => ?_⟩
  · obtain ⟨o, e⟩ := r a h
    rw [e]; exact g.keep a o e fun z => s.ap a h z
  · obtain ⟨o, e⟩ := r a h
    rcases none_or (H := R2) a with z | ⟨u, z⟩
    · exact z
    · rcases g.nw a (by rw [z]; exact fun y => nomatch y) with y | y | y
      · exact absurd (s.zf a h).1 y
      · exact (s.ap a h y).elim
      · rw [e] at y; cases y
  · obtain ⟨o, e⟩ := r a h
    rcases g.sub a k with y | y
    · exact s.ap a h y
    · rw [e] at y; cases y
theorem PvR.there (h : PvR K R P H S p v Z) : ∀ a, Z a → ∃ o, H a = some o := by
  cases p with
  | fr t => exact Rep.there h
  | vw t => obtain ⟨rfl, _⟩ := h; exact fun _ z => z.elim
  | pv t => obtain ⟨rfl, _⟩ := h; exact fun _ z => z.elim
/-- a value over a further step: a fresh one over any, a look over a quiet one -/
theorem PvR.over (s : Stp K σ P env R H S q env' R' H' S' Z) (h : PvR K R' P H' S' p v Z) (s2 : Stp K σ P env' R' H' S' q' env2 R2 H2 S2 Z') (c : (p.held || q') = true) : PvR K R2 P H2 S2 p v Z := by
  obtain ⟨k1, _, _⟩ := s.hold h.there s2.fr
  cases p with
  | fr t => exact Rep.mono s2.fr.rr h k1
  | vw t =>
    obtain ⟨rfl, S0, r, z⟩ := h
    have e : q' = true := by simpa [PV.held] using c
    obtain ⟨_, hh, es, _⟩ := s2.qt e
    exact ⟨rfl, S0, Rep.mono s2.fr.rr r fun a x => by
      obtain ⟨o, y⟩ := Rep.there r a x
      rw [y]; exact hh a o y, by rw [es]; exact z⟩
  | pv t =>
    obtain ⟨rfl, S0, r⟩ := h
    exact ⟨rfl, S0, Rep.mono s2.fr.rr r fun _ _ => rfl⟩
/-- two steps with their values: both stand -/
theorem Stp.both (s : Stp K σ P env R H S q env' R' H' S' Z) (th : ∀ a, Z a → ∃ o, H' a = some o) (s2 : Stp K σ P env' R' H' S' q' env2 R2 H2 S2 Z') :
    Stp K σ P env R H S (q && q') env2 R2 H2 S2 (TwoA Z Z') ∧ Apart Z Z' := by
  obtain ⟨k1, k2, k3⟩ := s.hold th s2.fr
  refine ⟨⟨s2.sr, fun a h z => ?_, fun a h => ?_, ?_, fun e => ?_⟩, fun a h z => k3 a h (.inr z)⟩
  · rcases h with h | h
    · exact k3 a h (.inl z)
    · exact s2.ap a h z
  · rcases h with h | h
    · exact ⟨k2 a h, (s.zf a h).2⟩
    · exact s2.zf a h
  · have g : Fr R' H' (TwoA S' Z) R2 H2 (TwoA S2 Z') := s2.fr.widen fun a h => .inl h
    have f := s.fr.trans g
    refine ⟨f.keep, f.rr, f.nw, fun a h => ?_⟩
    rcases h with h | h | h
    · exact f.sub a (.inl h)
    · exact s.fr.sub a (.inr h)
    · exact f.sub a (.inr h)
  · obtain ⟨e1, e2⟩ := Bool.and_eq_true_iff.mp e
    obtain ⟨a1, a2, a3, a4⟩ := s.qt e1
    obtain ⟨b1, b2, b3, b4⟩ := s2.qt e2
    refine ⟨b1.trans a1, a2.trans b2, b3.trans a3, fun a h => ?_⟩
    rcases h with h | h
    · exact a4 a h
    · rcases none_or (H := H) a with z | ⟨o, z⟩
      · exact z
      · have := b4 a h
        rw [a2 a o z] at this; cases this
/-- values are let go -/
theorem Stp.drop (s : Stp K σ P env R H S q env' R' H' S' Z) (h : ∀ a, Z' a → Z a) : Stp K σ P env R H S q env' R' H' S' Z' :=
  ⟨s.sr, fun a x y => s.ap a (h a x) y, fun a x => s.zf a (h a x), s.fr.narrow fun a x => x.imp_right (h a), fun e => let ⟨a, b, c, d⟩ := s.qt e; ⟨a, b, c, fun a x => d a (h a x)⟩⟩
end

/-! ### what a pure operation leaves: only new things -/
structure PF (R H R' H' : Hp) (Z : ASet) : Prop where
  hh : Sub H H'
  rr : Sub R R'
  rh : RSub R' H'
  nw : ∀ a, R' a ≠ none → R a ≠ none ∨ H a = none
  zf : ∀ a, Z a → H a = none ∧ R' a = none
theorem PF.refl {R H : Hp} (s : RSub R H) : PF R H R H NoA := ⟨Sub.refl H, Sub.refl R, s, fun _ h => .inl h, fun _ h => h.elim⟩
theorem RSub.no {R H : Hp} (s : RSub R H) {a : Addr} (n : H a = none) : R a = none := by
  rcases none_or (H := R) a with z | ⟨u, z⟩
  · exact z
  · obtain ⟨o, e⟩ := s.there z
    rw [e] at n; cases n
theorem Sub.upd {H : Hp} {p : Addr} {o : HO} (n : H p = none) : Sub H (upd H p o) := fun a u e => by rw [upd_ne (ne_of_none e n)]; exact e
/-- a new object of its own -/
theorem PF.own {R H : Hp} (s : RSub R H) {p : Addr} {o : HO} (n : H p = none) : PF R H R (upd H p o) (OneA p NoA) := by
  refine ⟨Sub.upd n, Sub.refl R, s.trans (Sub.upd n), fun _ h => .inl h, fun a h => ?_⟩
  rcases h with rfl | h
  · exact ⟨n, s.no n⟩
  · exact h.elim
/-- a new object for the region -/
theorem PF.reg {R H : Hp} (s : RSub R H) {p : Addr} {o : HO} (n : H p = none) : PF R H (upd R p o) (upd H p o) NoA := by
  have m : R p = none := s.no n
  refine ⟨Sub.upd n, Sub.upd m, fun a u e => ?_, fun a h => ?_, fun _ h => h.elim⟩
  · by_cases q : a = p
    · subst q; rw [upd_same] at e; exact .inl (by rw [upd_same]; exact e)
    · rw [upd_ne q] at e; exact (s a u e).sub (Sub.upd n)
  · by_cases q : a = p
    · exact .inr (q ▸ n)
    · rw [upd_ne q] at h; exact .inl h
section
variable {K : PySem.W.Frag} {W : WX} {σ : St} {P R H R' H' R2 H2 : Hp} {env env' env2 : List T} {S S' S2 Z Z' : ASet} {q q' : Bool}
theorem RepSl.mono (s : Sub R R') : ∀ {es : List T} {σ : St} {S : ASet}, RepSl K R P H es σ S → (∀ a, S a → H' a = H a) → RepSl K R' P H' es σ S
  | _, _, _, .nil, _ => .nil
  | _, _, _, .no h, k => .no (RepSl.mono s h k)
  | _, _, _, .so a b n, k => .so (a.mono s fun x h => k x (.inl h)) (RepSl.mono s b fun x h => k x (.inr h)) n
theorem RepSl.there : ∀ {es : List T} {σ : St} {S : ASet}, RepSl K R P H es σ S → ∀ a, S a → ∃ o, H a = some o
  | _, _, _, .nil, _, h => h.elim
  | _, _, _, .no b, _, h => RepSl.there b _ h
  | _, _, _, .so a b _, _, h => h.elim (a.there _) (RepSl.there b _)
theorem SR.pure (s : SR K env σ R P H S) (f : PF R H R' H' Z) : SR K env σ R' P H' S ∧ Apart Z S := by
  have th := s.sl.there
  refine ⟨⟨s.sl.mono f.rr fun a h => ?_, f.rh, s.ph.trans f.hh, fun a h => ⟨?_, (s.sf a h).2⟩⟩, fun a h k => ?_⟩
  · obtain ⟨o, e⟩ := th a h
    rw [e]; exact f.hh a o e
  · obtain ⟨o, e⟩ := th a h
    rcases none_or (H := R') a with z | ⟨u, z⟩
    · exact z
    · rcases f.nw a (by rw [z]; exact fun y => nomatch y) with y | y
      · exact absurd (s.sf a h).1 y
      · rw [e] at y; cases y
  · obtain ⟨o, e⟩ := th a k
    rw [(f.zf a h).1] at e; cases e
theorem SR.step (s : SR K env σ R P H S) (f : PF R H R' H' Z) : Stp K σ P env R H S true env R' H' S Z := by
  obtain ⟨a, b⟩ := s.pure f
  refine ⟨a, b, fun x h => ⟨(f.zf x h).2, ?_⟩, ⟨fun x o e _ => f.hh x o e, f.rr, fun x h => (f.nw x h).imp_right .inr, fun x h => ?_⟩, fun _ => ⟨rfl, f.hh, rfl, fun x h => (f.zf x h).1⟩⟩
  · exact s.ph.no (f.zf x h).1
  · rcases h with h | h
    · exact .inl h
    · exact .inr (f.zf x h).1
end

/-! ### names, constants -/
def eVar (i : Nat) : Es := fun env => match env[i]? with
  | some t => (mkV t).map fun p => .ok true p env
  | none => none
def eC (d : D) : Es := fun env => some (.ok true (.fr (.dat d)) env)
section
variable {X : Cx} {W : WX}
theorem RepSl.get {K : PySem.W.Frag} {R P H : Hp} : ∀ {es : List T} {σ : St} {S : ASet} {i : Nat} {t : T}, RepSl K R P H es σ S → es[i]? = some t → t = .un ∨ ∃ v S1, σ[i]? = some (some v) ∧ RepA K R P H t v S1 ∧ ∀ a, S1 a → S a
  | _, _, _, _, _, .nil, e => by simp at e
  | _, _, _, 0, _, .no _, e => by simp at e; exact .inl e.symm
  | _, _, _, i + 1, _, .no b, e => by simpa using RepSl.get (i := i) b (by simpa using e)
  | _, _, _, 0, _, .so a b n, e => by simp at e; subst e; exact .inr ⟨_, _, rfl, a, fun _ h => .inl h⟩
  | _, _, _, i + 1, _, .so a b n, e => by
    rcases RepSl.get (i := i) b (by simpa using e) with h | ⟨v, S1, h1, h2, h3⟩
    · exact .inl h
    · exact .inr ⟨v, S1, by simpa using h1, h2, fun a h => .inr (h3 a h)⟩
theorem mkV_rep {K : PySem.W.Frag} {R P H : Hp} {t : T} {v : V} {S S' : ASet} {p : PV} (r : RepA K R P H t v S) (e : mkV t = some p) (sub : ∀ a, S a → S' a) : PvR K R P H S' p v NoA := by
  cases r with
  | own r =>
    cases r with
    | un => cases e
    | scr h => cases e; exact .scr h
    | dat h => cases e; exact .dat h
    | fn n => cases e; exact .fn n
    | exc n n2 => cases e; exact .exc n n2
    | lst a b c => cases e; exact ⟨rfl, _, .lst a b c, sub⟩
    | tup a b => cases e; exact ⟨rfl, _, .tup a b, sub⟩
    | dK a b c => cases e; exact ⟨rfl, _, .dK a b c, sub⟩
    | dT a b c => cases e; exact ⟨rfl, _, .dT a b c, sub⟩
    | ins z a b c d1 d2 d3 => cases e; exact ⟨rfl, _, .ins z a b c d1 d2 d3, sub⟩
  | vw r =>
    cases r with
    | un => cases e
    | scr h => cases e; exact .scr h
    | dat h => cases e; exact .dat h
    | fn n => cases e; exact .fn n
    | exc n n2 => cases e; exact .exc n n2
    | lst a b c => cases e; exact ⟨rfl, _, .lst a b c⟩
    | tup a b => cases e; exact ⟨rfl, _, .tup a b⟩
    | dK a b c => cases e; exact ⟨rfl, _, .dK a b c⟩
    | dT a b c => cases e; exact ⟨rfl, _, .dT a b c⟩
    | ins z a b c d1 d2 d3 => cases e; exact ⟨rfl, _, .ins z a b c d1 d2 d3⟩
theorem ej_var (i : Nat) {x : Str} {pos : Pos} (hN : X.N[i]? = some x := by rfl) (hv : Vis X.env.scope x := by first | exact Or.inl rfl | exact Or.inr (Or.inl rfl) | exact Or.inr (Or.inr rfl))
    (hd : (x == ("__debug__" : Str)) = false := by decide) (hcd : (x == ("__classdict__" : Str)) = false := by decide) : EJ X W (.Name x pos) (eVar i) := by
  refine PE.imp (pe_var (i := i) hN hv hd hcd) fun σ H Q h => ?_
  obtain ⟨env, R, P, S, r, sr, hr, post⟩ := h
  unfold eVar at hr
  split at hr
  · rename_i t ht
    cases e : mkV t with
    | none => rw [e] at hr; cases hr
    | some p =>
      rw [e] at hr
      simp only [Option.map_some, Option.some.injEq] at hr
      subst hr
      rcases sr.sl.get ht with rfl | ⟨v, S1, h1, h2, h3⟩
      · cases e
      · exact ⟨v, h1, post v R H S NoA sr.stp (mkV_rep h2 e h3)⟩
  · cases hr
theorem ej_c {e : Expr} {v : V} {d : D} (h : PE X e (tC v)) (hd : ∀ M, Dat M v d) : EJ X W e (eC d) := by
  refine PE.imp h fun σ H Q h => ?_
  obtain ⟨env, R, P, S, r, sr, hr, post⟩ := h
  cases hr
  exact post v R H S NoA sr.stp (Rep.dat (hd _))
theorem ej_int {i j pos} : EJ X W (.Constant (.int i) j pos) (eC (.int i)) := ej_c pe_int fun _ => .int i
theorem ej_bl {b j pos} : EJ X W (.Constant (.bool b) j pos) (eC (.bool b)) := ej_c pe_bl fun _ => .bl b
theorem ej_non {j pos} : EJ X W (.Constant .none j pos) (eC .none) := ej_c pe_non fun _ => .non
theorem ej_str {x j pos} : EJ X W (.Constant (.str x) j pos) (eC (.str x)) := ej_c pe_str fun _ => .str x
end

/-! ### two-place operations -/
def e2 (op : PV → PV → Option PV) (fa fb : Es) : Es := fun env => match fa env with
  | some (.ok qa a env1) => match fb env1 with
    | some (.ok qb b env2) => if (a.held || qb) = true then (op a b).map fun p => .ok (qa && qb) p env2 else none
    | r => r
  | r => r
def rOp (K : PySem.W.Frag) (op : PV → PV → Option PV) : R2 := fun x y H Q => ∃ R P S a b Za Zb p, RSub R H ∧ RSub P H ∧ PvR K R P H S a x Za ∧ PvR K R P H S b y Zb ∧ op a b = some p ∧
  ∀ z R' H' Z, PF R H R' H' Z → PvR K R' P H' S p z Z → Q z H'
section
variable {K : PySem.W.Frag} {W : WX} {σ : St} {H : Hp} {Q : VK} {fa fb : Es}
theorem Fr.quiet {R H R' H' : Hp} {S Z : ASet} (f : PF R H R' H' Z) : Fr R H S R' H' S := ⟨fun x o e _ => f.hh x o e, f.rr, fun x h => (f.nw x h).imp_right .inr, fun x h => .inl h⟩
theorem e2_imp {op : PV → PV → Option PV} (h : rdE K W (e2 op fa fb) σ H Q) : rdE K W fa σ H (fun x H1 => rdE K W fb σ H1 fun y H2 => rOp K op x y H2 Q) := by
  obtain ⟨env, R, P, S, r, sr, hr, post⟩ := h
  unfold e2 at hr
  cases ha : fa env with
  | none => rw [ha] at hr; cases hr
  | some ra =>
    rw [ha] at hr
    cases ra with
    | x ex env1 =>
      cases hr
      exact ⟨env, R, P, S, _, sr, ha, post⟩
    | ok qa a env1 =>
      refine ⟨env, R, P, S, _, sr, ha, fun v1 R1 H1 S1 Z1 t1 p1 => ?_⟩
      simp only at hr
      cases hb : fb env1 with
      | none => rw [hb] at hr; cases hr
      | some rb =>
        rw [hb] at hr
        cases rb with
        | x ex env2 =>
          cases hr
          refine ⟨env1, R1, P, S1, _, t1.sr, hb, fun c d R' H' S' s' f' ex' => post c d R' H' S' s' ?_ ex'⟩
          exact (t1.fr.narrow (Z := S1) fun _ h => .inl h).trans f'
        | ok qb b env2 =>
          simp only at hr
          split at hr
          · rename_i hc
            cases hp : op a b with
            | none => rw [hp] at hr; cases hr
            | some p =>
              rw [hp] at hr
              cases hr
              refine ⟨env1, R1, P, S1, _, t1.sr, hb, fun v2 R2 H2 S2 Z2 t2 p2 => ?_⟩
              refine ⟨R2, P, S2, a, b, Z1, Z2, p, t2.sr.rh, t2.sr.ph, PvR.over t1 p1 t2 hc, p2, hp, fun z R' H' Z f pz => ?_⟩
              have t3 := t2.sr.step f
              have t12 := (t1.both p1.there t2).1
              have th : ∀ x, NoA x → ∃ o, H2 x = some o := fun _ h => h.elim
              have t123 := ((t12.drop (Z' := NoA) fun _ h => h.elim).both th t3).1
              rw [no_two, Bool.and_true] at t123
              exact post z R' H' _ Z t123 pz
          · cases hr
end
section
variable {X : Cx} {W : WX} {a b : Expr} {fa fb : Es} {pos : Pos}
abbrev OpK (X : Cx) (f : Value → Value → Sem Value) (op : PV → PV → Option PV) : Prop := OpR X f (rOp X.K op)
theorem ej_op {o : Operator} {op : PV → PV → Option PV} (ho : OpK X (binaryOp o) op) (ha : EJ X W a fa) (hb : EJ X W b fb) : EJ X W (.BinOp a o b pos) (e2 op fa fb) :=
  PE.imp (pe_op ho ha hb) fun _ _ _ h => e2_imp h
theorem ej_cmp {o : CmpOp} {op : PV → PV → Option PV} (ho : OpK X (compareOp o) op) (ha : EJ X W a fa) (hb : EJ X W b fb) (hm : behindInMarks o b = false := by rfl) : EJ X W (.Compare a [o] [b] pos) (e2 op fa fb) :=
  PE.imp (pe_cmpR ho ha hb hm) fun _ _ _ h => e2_imp h
end
end VS

set_option Elab.async false
set_option linter.all false
set_option maxRecDepth 100000
/-! Value semantics, 3: what a tree reads as; operators, comparisons. -/
namespace VS
open PySem L2

mutual
/-- the data that a tree reads as, whoever owns it -/
def toD : T → Option D
  | .dat d => some d
  | .vw _ => none
  | .lst ts => (toDs ts).map .list
  | .tup ts => (toDs ts).map .tuple
  | .dct es => (toDk es).map .dict
  | .un => none
  | .scr _ => none
  | .fn _ => none
  | .exc _ => none
  | .ins _ _ => none
def toDs : List T → Option (List D)
  | [] => some []
  | t :: ts => match toD t, toDs ts with
    | some d, some ds => some (d :: ds)
    | _, _ => none
def toDk : List (D × T) → Option (List (D × D))
  | [] => some []
  | (k, t) :: ts => match toD t, toDk ts with
    | some d, some ds => some ((k, d) :: ds)
    | _, _ => none
end
/-- trees that are all data -/
def allDat : List T → Option (List D)
  | [] => some []
  | .dat d :: ts => (allDat ts).map (d :: ·)
  | _ => none
/-- a list's items, a tuple's items, that may be kept -/
def elems : T → Option (List D)
  | .dat (.list ds) => some ds
  | .lst ts => allDat ts
  | _ => none
def telems : T → Option (List D)
  | .dat (.tuple ds) => some ds
  | .tup ts => allDat ts
  | _ => none
theorem allDat_map : ∀ ds : List D, allDat (ds.map .dat) = some ds
  | [] => rfl
  | d :: ds => by
    show (allDat (ds.map .dat)).map (d :: ·) = _
    rw [allDat_map ds]; rfl
theorem toDs_map : ∀ ds : List D, toDs (ds.map .dat) = some ds
  | [] => by simp [toDs]
  | d :: ds => by
    show toDs (.dat d :: ds.map .dat) = _
    rw [toDs, toDs_map ds]; simp [toD]

section
variable {K : PySem.W.Frag} {R G H : Hp}
mutual
theorem toD_rep (rh : RSub R H) : ∀ {G : Hp} {t : T} {v : V} {S : ASet} {d : D}, RSub G H → Rep K R G t v S → toD t = some d → Dat (Rdd H) v d
  | _, _, _, _, _, _, .un, e => by simp [toD] at e
  | _, _, _, _, _, _, .scr _, e => by simp [toD] at e
  | _, _, _, _, _, _, .fn _, e => by simp [toD] at e
  | _, _, _, _, _, _, .exc _ _, e => by simp [toD] at e
  | _, _, _, _, _, _, .ins _ _ _ _ _ _ _, e => by simp [toD] at e
  | _, _, _, _, _, _, .dat h, e => by
    simp only [toD, Option.some.injEq] at e
    subst e
    exact h.mono rh
  | _, _, _, _, _, gh, .lst h r _, e => by
    rw [toD] at e
    cases q : toDs _ with
    | none => rw [q] at e; cases e
    | some ds =>
      rw [q] at e; cases e
      exact .lst (gh _ _ h) (toDs_rep rh gh r q)
  | _, _, _, _, _, gh, .tup h r, e => by
    rw [toD] at e
    cases q : toDs _ with
    | none => rw [q] at e; cases e
    | some ds =>
      rw [q] at e; cases e
      exact .tup (rh _ _ h) (toDs_rep rh gh r q)
  | _, _, _, _, _, gh, .dK h r _, e => by
    rw [toD] at e
    cases q : toDk _ with
    | none => rw [q] at e; cases e
    | some ds =>
      rw [q] at e; cases e
      exact .dK (gh _ _ h) (toDk_rep rh gh r q)
  | _, _, _, _, _, gh, .dT h r _, e => by
    rw [toD] at e
    cases q : toDk _ with
    | none => rw [q] at e; cases e
    | some ds =>
      rw [q] at e; cases e
      exact .dT (gh _ _ h) (toDt_rep rh gh r q)
theorem toDs_rep (rh : RSub R H) : ∀ {G : Hp} {t : List T} {v : List V} {S : ASet} {d : List D}, RSub G H → RepAll K R G t v S → toDs t = some d → DatAll (Rdd H) v d
  | _, _, _, _, _, _, .nil, e => by
    simp only [toDs, Option.some.injEq] at e
    subst e; exact .nil
  | _, _, _, _, _, gh, .cons a b _, e => by
    rw [toDs] at e
    cases q1 : toD _ with
    | none => rw [q1] at e; cases e
    | some d =>
      cases q2 : toDs _ with
      | none => rw [q1, q2] at e; cases e
      | some ds =>
        rw [q1, q2] at e; cases e
        exact .cons (toD_rep rh gh a q1) (toDs_rep rh gh b q2)
theorem toDk_rep (rh : RSub R H) : ∀ {G : Hp} {t : List (D × T)} {v : List (Key × V)} {S : ASet} {d : List (D × D)}, RSub G H → RepK K R G t v S → toDk t = some d → DatK (Rdd H) v d
  | _, _, _, _, _, _, .nil, e => by
    simp only [toDk, Option.some.injEq] at e
    subst e; exact .nil
  | _, _, _, _, _, gh, .cons a b _, e => by
    rw [toDk] at e
    cases q1 : toD _ with
    | none => rw [q1] at e; cases e
    | some d =>
      cases q2 : toDk _ with
      | none => rw [q1, q2] at e; cases e
      | some ds =>
        rw [q1, q2] at e; cases e
        exact .cons (toD_rep rh gh a q1) (toDk_rep rh gh b q2)
theorem toDt_rep (rh : RSub R H) : ∀ {G : Hp} {t : List (D × T)} {v : List (List Key × V)} {S : ASet} {d : List (D × D)}, RSub G H → RepT K R G t v S → toDk t = some d → DatT (Rdd H) v d
  | _, _, _, _, _, _, .nil, e => by
    simp only [toDk, Option.some.injEq] at e
    subst e; exact .nil
  | _, _, _, _, _, gh, .cons a b _, e => by
    rw [toDk] at e
    cases q1 : toD _ with
    | none => rw [q1] at e; cases e
    | some d =>
      cases q2 : toDk _ with
      | none => rw [q1, q2] at e; cases e
      | some ds =>
        rw [q1, q2] at e; cases e
        exact .cons (toD_rep rh gh a q1) (toDt_rep rh gh b q2)
end
theorem allDat_rep : ∀ {ts : List T} {vs : List V} {S : ASet} {ds : List D}, RepAll K R G ts vs S → allDat ts = some ds → DatAll (Reg R) vs ds ∧ ts = ds.map .dat
  | _, _, _, _, .nil, e => by
    simp only [allDat, Option.some.injEq] at e
    subst e; exact ⟨.nil, rfl⟩
  | _, _, _, _, .cons a b _, e => by
    cases a with
    | dat h =>
      rw [allDat] at e
      cases q : allDat _ with
      | none => rw [q] at e; cases e
      | some ds =>
        rw [q] at e; cases e
        obtain ⟨x, y⟩ := allDat_rep b q
        exact ⟨.cons h x, by rw [y]; rfl⟩
    | _ => simp [allDat] at e
theorem elems_rep (rh : RSub R H) (gh : RSub G H) {t : T} {v : V} {S : ASet} {ds : List D} (r : Rep K R G t v S) (e : elems t = some ds) : ∃ a vs, v = .ref a ∧ H a = some (.lst vs) ∧ DatAll (Reg R) vs ds := by
  cases t with
  | dat d => cases d with
    | list xs =>
      cases e
      cases r with
      | dat h => cases h with
        | lst h1 h2 => exact ⟨_, _, rfl, rh.ex h1 rfl, h2⟩
    | _ => cases e
  | lst ts =>
    cases r with
    | lst h1 h2 _ => exact ⟨_, _, rfl, gh.ex h1 rfl, (allDat_rep h2 e).1⟩
  | _ => cases e
/-- a tuple that reads as kept items is data of the region itself -/
theorem telems_rep {t : T} {v : V} {S : ASet} {ds : List D} (r : Rep K R G t v S) (e : telems t = some ds) : ∃ a vs, v = .ref a ∧ R a = some (.tup vs) ∧ DatAll (Reg R) vs ds := by
  cases t with
  | dat d => cases d with
    | tuple xs =>
      cases e
      cases r with
      | dat h => cases h with
        | tup h1 h2 => exact ⟨_, _, rfl, h1, h2⟩
    | _ => cases e
  | tup ts =>
    cases r with
    | tup h1 h2 => exact ⟨_, _, rfl, h1, (allDat_rep h2 e).1⟩
  | _ => cases e
theorem datAll_rep : ∀ {vs : List V} {ds : List D}, DatAll (Reg R) vs ds → RepAll K R G (ds.map .dat) vs NoA
  | _, _, .nil => .nil
  | _, _, .cons a b => by
    have z := RepAll.cons (K := K) (H := G) (Rep.dat a) (datAll_rep b) noA_apart
    rw [two_no] at z
    exact z
/-- a new list of kept items -/
theorem rep_new {vs : List V} {ds : List D} {p : Addr} (h : DatAll (Reg R) vs ds) : Rep K R (upd H p (.lst vs)) (.lst (ds.map .dat)) (.ref p) (OneA p NoA) := .lst upd_same (datAll_rep h) id
end

def pD (p : PV) : Option D := toD p.tr
def pL (p : PV) : Option (List D) := elems p.tr
def pTu (p : PV) : Option (List D) := telems p.tr
abbrev vInt (i : Int) : PV := .fr (.dat (.int i))
abbrev vBl (b : Bool) : PV := .fr (.dat (.bool b))
abbrev vStr (x : Str) : PV := .fr (.dat (.str x))
abbrev vNon : PV := .fr (.dat .none)
abbrev vDat (d : D) : PV := .fr (.dat d)
/-- a new list -/
abbrev vNew (ds : List D) : PV := .fr (.lst (ds.map .dat))
section
variable {K : PySem.W.Frag} {R P H : Hp} {S : ASet} {p : PV} {v : V} {Z : ASet}
/-- a look, whatever it is -/
theorem PvR.look (r : PvR K R P H S p v Z) (ph : RSub P H) : ∃ G S0, RSub G H ∧ Rep K R G p.tr v S0 := by
  cases p with
  | fr t => exact ⟨H, _, RSub.refl H, r⟩
  | vw t => obtain ⟨_, S0, r, _⟩ := r; exact ⟨H, _, RSub.refl H, r⟩
  | pv t => obtain ⟨_, S0, r⟩ := r; exact ⟨P, _, ph, r⟩
theorem pD_rep (rh : RSub R H) (ph : RSub P H) (r : PvR K R P H S p v Z) {d : D} (e : pD p = some d) : Dat (Rdd H) v d := by
  obtain ⟨G, S0, g, r⟩ := r.look ph
  exact toD_rep rh g r e
theorem pL_rep (rh : RSub R H) (ph : RSub P H) (r : PvR K R P H S p v Z) {d : List D} (e : pL p = some d) : ∃ a vs, v = .ref a ∧ H a = some (.lst vs) ∧ DatAll (Reg R) vs d := by
  obtain ⟨G, S0, g, r⟩ := r.look ph
  exact elems_rep rh g r e
theorem pTu_rep (ph : RSub P H) (r : PvR K R P H S p v Z) {d : List D} (e : pTu p = some d) : ∃ a vs, v = .ref a ∧ R a = some (.tup vs) ∧ DatAll (Reg R) vs d := by
  obtain ⟨G, S0, g, r⟩ := r.look ph
  exact telems_rep r e
end
mutual
theorem Dat.dp {K : PySem.W.Frag} {H : Hp} : ∀ {v : V} {d : D}, Dat (Rdd H) v d → d.canLay0 = true → Dp K H v d
  | _, _, .non, _ => .non
  | _, _, .bl b, _ => .bl b
  | _, _, .int i, _ => .int i
  | _, _, .str x, _ => .str x
  | _, _, .lst h r, c => .lst (.inl (.inl (h.ex rfl))) (DatAll.dp r (by simpa [PyData.canLay0] using c))
  | _, _, .tup h r, c => .tup (.inl (.inl (h.ex rfl))) (DatAll.dp r (by simpa [PyData.canLay0] using c))
  | _, _, .dK _ _, c => by simp [PyData.canLay0] at c
  | _, _, .dT _ _, c => by simp [PyData.canLay0] at c
theorem DatAll.dp {K : PySem.W.Frag} {H : Hp} : ∀ {v : List V} {d : List D}, DatAll (Rdd H) v d → PyData.canLayAll0 d = true → DpAll K H v d
  | _, _, .nil, _ => .nil
  | _, _, .cons a b, c => by
    rw [PyData.canLayAll0, Bool.and_eq_true] at c
    exact .cons (Dat.dp a c.1) (DatAll.dp b c.2)
end
end VS

set_option Elab.async false
set_option linter.all false
set_option maxRecDepth 100000
/-! Value semantics, 4: operators and comparisons by values. -/
namespace VS
open PySem L2

theorem OpR.or {X : Cx} {f : Value → Value → Sem Value} {r r' : R2} (h : OpR X f r) (h' : OpR X f r') : OpR X f (fun x y H Q => r x y H Q ∨ r' x y H Q) := by
  intro pins s σ H x y v u Q I rx ry q
  rcases q with q | q
  · exact h pins s σ H x y v u Q I rx ry q
  · exact h' pins s σ H x y v u Q I rx ry q
theorem OpR.imp {X : Cx} {f : Value → Value → Sem Value} {r r' : R2} (h : OpR X f r) (k : ∀ x y H Q, r' x y H Q → r x y H Q) : OpR X f r' :=
  fun pins s σ H x y v u Q I rx ry q => h pins s σ H x y v u Q I rx ry (k x y H Q q)
theorem dat_int {M : Rdr} {v : V} {i : Int} (h : Dat M v (.int i)) : v = .int i := by cases h; rfl
theorem dat_bl {M : Rdr} {v : V} {i : Bool} (h : Dat M v (.bool i)) : v = .bl i := by cases h; rfl
theorem dat_str {M : Rdr} {v : V} {i : Str} (h : Dat M v (.str i)) : v = .str i := by cases h; rfl
theorem dat_non {M : Rdr} {v : V} (h : Dat M v .none) : v = .non := by cases h; rfl

/-- ints to an int, where c allows it -/
def opI (c : Int → Int → Bool) (g : Int → Int → Int) (a b : PV) : Option PV := match pD a, pD b with
  | some (.int i), some (.int j) => if c i j = true then some (vInt (g i j)) else none
  | _, _ => none
def opB (g : Int → Int → Bool) (a b : PV) : Option PV := match pD a, pD b with
  | some (.int i), some (.int j) => some (vBl (g i j))
  | _, _ => none
section
variable {X : Cx}
theorem opI_ok {f : Value → Value → Sem Value} {C : Int → Int → Prop} {g : Int → Int → Int} {c : Int → Int → Bool} (h : OpR X f (rI C fun i j => .int (g i j))) (hc : ∀ i j, c i j = true → C i j) : OpK X f (opI c g) := by
  refine OpR.imp h fun x y H Q k => ?_
  obtain ⟨R, P, S, a, b, Za, Zb, p, rh, ph, ra, rb, e, k⟩ := k
  unfold opI at e
  split at e
  · rename_i i j ea eb
    split at e
    · rename_i cc
      cases e
      have h1 := dat_int (pD_rep rh ph ra ea)
      have h2 := dat_int (pD_rep rh ph rb eb)
      exact ⟨i, j, h1, h2, hc i j cc, k _ R H NoA (PF.refl rh) (Rep.dat (.int _))⟩
    · cases e
  · cases e
theorem opB_ok {f : Value → Value → Sem Value} {g : Int → Int → Bool} (h : OpR X f (rI0 fun i j => .bl (g i j))) : OpK X f (opB g) := by
  refine OpR.imp h fun x y H Q k => ?_
  obtain ⟨R, P, S, a, b, Za, Zb, p, rh, ph, ra, rb, e, k⟩ := k
  unfold opB at e
  split at e
  · rename_i i j ea eb
    cases e
    exact ⟨i, j, dat_int (pD_rep rh ph ra ea), dat_int (pD_rep rh ph rb eb), k _ R H NoA (PF.refl rh) (Rep.dat (.bl _))⟩
  · cases e
theorem rI0_rI {f : Value → Value → Sem Value} {g : Int → Int → V} (h : OpR X f (rI0 g)) : OpR X f (rI (fun _ _ => True) g) :=
  OpR.imp h fun _ _ _ _ ⟨i, j, a, b, _, q⟩ => ⟨i, j, a, b, q⟩
/-- a product's factors: bits together -/
def cMul (i j : Int) : Bool := decide (i.natAbs.log2 + j.natAbs.log2 < 1000000)
def cDiv (_ j : Int) : Bool := decide (0 < j) && decide (j.natAbs.log2 < 9000)
def cMod (_ j : Int) : Bool := decide (0 < j)
def cPow (i j : Int) : Bool := decide (0 ≤ j) && decide (j ≤ 1000000) && decide (i.natAbs < 2 ^ 64)
abbrev opSub := opI (fun _ _ => true) (fun i j => i - j)
abbrev opMul := opI cMul (fun i j => i * j)
abbrev opFdiv := opI cDiv (fun i j => i / j)
abbrev opMod := opI cMod (fun i j => i % j)
abbrev opPow := opI cPow (fun i j => i ^ j.toNat)
theorem ok_sub : OpK X (binaryOp .Sub) opSub := opI_ok (rI0_rI op_sub) fun _ _ _ => trivial
theorem ok_mul : OpK X (binaryOp .Mult) opMul := opI_ok op_mulW fun i j h => (show i.natAbs.log2 + j.natAbs.log2 < 1000000 from of_decide_eq_true h)
theorem ok_fdiv : OpK X (binaryOp .FloorDiv) opFdiv := opI_ok op_fdivW fun _ _ h => by
  obtain ⟨a, b⟩ := Bool.and_eq_true_iff.mp h
  exact ⟨of_decide_eq_true a, of_decide_eq_true b⟩
theorem ok_mod : OpK X (binaryOp .Mod) opMod := opI_ok op_mod fun _ _ h => of_decide_eq_true h
theorem ok_pow : OpK X (binaryOp .Pow) opPow := opI_ok op_pow fun _ _ h => by
  obtain ⟨h, c⟩ := Bool.and_eq_true_iff.mp h
  obtain ⟨a, b⟩ := Bool.and_eq_true_iff.mp h
  exact ⟨of_decide_eq_true a, of_decide_eq_true b, of_decide_eq_true c⟩
abbrev opLt := opB fun i j => decide (i < j)
abbrev opLe := opB fun i j => decide (i ≤ j)
abbrev opGt := opB fun i j => decide (j < i)
abbrev opGe := opB fun i j => decide (j ≤ i)
theorem ok_lt : OpK X (compareOp .Lt) opLt := opB_ok op_lt
theorem ok_le : OpK X (compareOp .LtE) opLe := opB_ok op_le
theorem ok_gt : OpK X (compareOp .Gt) opGt := opB_ok op_gt
theorem ok_ge : OpK X (compareOp .GtE) opGe := opB_ok op_ge

/-- + of ints, of an int and a truth, of texts, of lists, of tuples -/
def opAdd (a b : PV) : Option PV := match pD a, pD b with
  | some (.int i), some (.int j) => some (vInt (i + j))
  | some (.int i), some (.bool k) => some (vInt (i + PyProof.Rows.b2i k))
  | some (.str x), some (.str y) => if x.length + y.length ≤ sizeLine then some (vStr (x ++ y)) else none
  | some (.list _), some (.list _) => match pL a, pL b with
    | some xs, some ys => if xs.length + ys.length ≤ sizeLine then some (vNew (xs ++ ys)) else none
    | _, _ => none
  | some (.tuple _), some (.tuple _) => match pTu a, pTu b with
    | some xs, some ys => if xs.length + ys.length ≤ sizeLine then some (vDat (.tuple (xs ++ ys))) else none
    | _, _ => none
  | _, _ => none
theorem Reg.h {R H : Hp} (rh : RSub R H) {a : Addr} {xs : List V} (h : R a = some (.tup xs)) : H a = some (.tup xs) := rh.ex h rfl
theorem ok_add : OpK X (binaryOp .Add) opAdd := by
  refine OpR.imp (OpR.or op_add (OpR.or op_add_ib (OpR.or op_add_str (OpR.or op_cat op_catA)))) fun x y H Q k => ?_
  obtain ⟨R, P, S, a, b, Za, Zb, p, rh, ph, ra, rb, e, k⟩ := k
  unfold opAdd at e
  split at e
  · rename_i i j ea eb
    cases e
    exact .inl ⟨i, j, dat_int (pD_rep rh ph ra ea), dat_int (pD_rep rh ph rb eb), k _ R H NoA (PF.refl rh) (Rep.dat (.int _))⟩
  · rename_i i j ea eb
    cases e
    exact .inr (.inl ⟨i, j, dat_int (pD_rep rh ph ra ea), dat_bl (pD_rep rh ph rb eb), k _ R H NoA (PF.refl rh) (Rep.dat (.int _))⟩)
  · rename_i i j ea eb
    split at e
    · rename_i c
      cases e
      exact .inr (.inr (.inl ⟨i, j, dat_str (pD_rep rh ph ra ea), dat_str (pD_rep rh ph rb eb), c, k _ R H NoA (PF.refl rh) (Rep.dat (.str _))⟩))
    · cases e
  · split at e
    · rename_i xs ys ea eb
      split at e
      · rename_i c
        cases e
        obtain ⟨l, vs, rfl, h1, d1⟩ := pL_rep rh ph ra ea
        obtain ⟨m, us, rfl, h2, d2⟩ := pL_rep rh ph rb eb
        exact .inr (.inr (.inr (.inl ⟨l, m, vs, us, rfl, rfl, h1, h2, by rw [d1.length, d2.length]; exact c, fun p hp => k _ R _ _ (PF.own rh hp) (rep_new (d1.append d2))⟩)))
      · cases e
    · cases e
  · split at e
    · rename_i xs ys ea eb
      split at e
      · rename_i c
        cases e
        obtain ⟨l, vs, rfl, h1, d1⟩ := pTu_rep ph ra ea
        obtain ⟨m, us, rfl, h2, d2⟩ := pTu_rep ph rb eb
        refine .inr (.inr (.inr (.inr ⟨l, m, vs, us, rfl, rfl, SqT.of (rh.ex h1 rfl), SqT.of (rh.ex h2 rfl), by rw [d1.length, d2.length]; exact c, fun q => ?_, fun _ q => ?_, fun _ _ p hp => ?_⟩)))
        · subst q
          cases d1
          exact k _ R H NoA (PF.refl rh) (Rep.dat (.tup h2 d2))
        · subst q
          cases d2
          rw [List.append_nil] at k
          exact k _ R H NoA (PF.refl rh) (Rep.dat (.tup h1 d1))
        · exact k _ _ _ NoA (PF.reg rh hp) (Rep.dat (.tup upd_same ((d1.append d2).mono fun b o e => by
            have n : R p = none := rh.no hp
            show upd R p _ b = some o
            rw [upd_ne (ne_of_none e n)]; exact e)))
      · cases e
    · cases e
  · cases e

/-- ==, != of data -/
def opEq (a b : PV) : Option PV := match pD a, pD b with
  | some (.str x), some (.str y) => some (vBl (decide (x = y)))
  | some d, some e => if (SeqAt.shaped d && SeqAt.shaped e) = true then some (vBl (PyData.eqv d e)) else none
  | _, _ => none
def opNe (a b : PV) : Option PV := match pD a, pD b with
  | some (.str x), some (.str y) => some (vBl (!decide (x = y)))
  | some d, some e => if (SeqAt.shaped d && SeqAt.shaped e) = true then some (vBl (!PyData.eqv d e)) else none
  | _, _ => none
theorem ok_eq (hu : X.A.units + 64 < cLine) : OpK X (compareOp .Eq) opEq := by
  refine OpR.imp (OpR.or (op_eqD hu) op_eq) fun x y H Q k => ?_
  obtain ⟨R, P, S, a, b, Za, Zb, p, rh, ph, ra, rb, e, k⟩ := k
  unfold opEq at e
  split at e
  · rename_i z z' ea eb
    cases e
    rw [dat_str (pD_rep rh ph ra ea), dat_str (pD_rep rh ph rb eb)]
    refine .inr ⟨rfl, ?_⟩
    have q : decide (V.str z = V.str z') = decide (z = z') := by
      by_cases h : z = z'
      · subst h; simp
      · rw [decide_eq_false h, decide_eq_false fun e => h (by cases e; rfl)]
    rw [q]
    exact k _ R H NoA (PF.refl rh) (Rep.dat (.bl _))
  · rename_i d d' _ ea eb
    split at e
    · rename_i c
      cases e
      obtain ⟨c1, c2⟩ := Bool.and_eq_true_iff.mp c
      exact .inl ⟨d, d', (pD_rep rh ph ra ea).dp (SeqAt.canLay_of_shaped c1), (pD_rep rh ph rb eb).dp (SeqAt.canLay_of_shaped c2), c1, c2, k _ R H NoA (PF.refl rh) (Rep.dat (.bl _))⟩
    · cases e
  · cases e
theorem ok_ne (hu : X.A.units + 64 < cLine) : OpK X (compareOp .NotEq) opNe := by
  refine OpR.imp (OpR.or (op_neD hu) op_ne) fun x y H Q k => ?_
  obtain ⟨R, P, S, a, b, Za, Zb, p, rh, ph, ra, rb, e, k⟩ := k
  unfold opNe at e
  split at e
  · rename_i z z' ea eb
    cases e
    rw [dat_str (pD_rep rh ph ra ea), dat_str (pD_rep rh ph rb eb)]
    refine .inr ⟨rfl, ?_⟩
    have q : decide (V.str z = V.str z') = decide (z = z') := by
      by_cases h : z = z'
      · subst h; simp
      · rw [decide_eq_false h, decide_eq_false fun e => h (by cases e; rfl)]
    rw [q]
    exact k _ R H NoA (PF.refl rh) (Rep.dat (.bl _))
  · rename_i d d' _ ea eb
    split at e
    · rename_i c
      cases e
      obtain ⟨c1, c2⟩ := Bool.and_eq_true_iff.mp c
      exact .inl ⟨d, d', (pD_rep rh ph ra ea).dp (SeqAt.canLay_of_shaped c1), (pD_rep rh ph rb eb).dp (SeqAt.canLay_of_shaped c2), c1, c2, k _ R H NoA (PF.refl rh) (Rep.dat (.bl _))⟩
    · cases e
  · cases e

/-- is None, is True: by what is known -/
def isNonT : T → Option Bool
  | .dat .none => some true
  | .un => none
  | _ => some false
def opIs (a b : PV) : Option PV := match pD b with
  | some .none => (isNonT a.tr).map fun k => vBl k
  | some (.bool j) => match pD a with
    | some (.bool i) => some (vBl (decide (i = j)))
    | _ => none
  | _ => none
def opIsNot (a b : PV) : Option PV := match pD b with
  | some .none => (isNonT a.tr).map fun k => vBl (!k)
  | some (.bool j) => match pD a with
    | some (.bool i) => some (vBl (!decide (i = j)))
    | _ => none
  | _ => none
theorem isNonT_rep {K : PySem.W.Frag} {R G : Hp} {t : T} {v : V} {S : ASet} {k : Bool} (r : Rep K R G t v S) (e : isNonT t = some k) : decide (v = .non) = k := by
  cases r with
  | un => cases e
  | dat h => cases h <;> (cases e; rfl)
  | _ => cases e; rfl
theorem pv_non {K : PySem.W.Frag} {R P H : Hp} {S : ASet} {p : PV} {v : V} {Z : ASet} {k : Bool} (ph : RSub P H) (r : PvR K R P H S p v Z) (e : isNonT p.tr = some k) : decide (v = .non) = k := by
  obtain ⟨G, S0, _, r⟩ := r.look ph
  exact isNonT_rep r e
theorem ok_is : OpK X (compareOp .Is) opIs := by
  refine OpR.imp (OpR.or op_isN op_isBl) fun x y H Q k => ?_
  obtain ⟨R, P, S, a, b, Za, Zb, p, rh, ph, ra, rb, e, k⟩ := k
  unfold opIs at e
  split at e
  · rename_i eb
    cases q : isNonT a.tr with
    | none => rw [q] at e; cases e
    | some t =>
      rw [q] at e; cases e
      refine .inl ⟨dat_non (pD_rep rh ph rb eb), ?_⟩
      rw [pv_non ph ra q]
      exact k _ R H NoA (PF.refl rh) (Rep.dat (.bl _))
  · rename_i j eb
    split at e
    · rename_i i ea
      cases e
      exact .inr ⟨i, j, dat_bl (pD_rep rh ph ra ea), dat_bl (pD_rep rh ph rb eb), k _ R H NoA (PF.refl rh) (Rep.dat (.bl _))⟩
    · cases e
  · cases e
theorem ok_isNot : OpK X (compareOp .IsNot) opIsNot := by
  refine OpR.imp (OpR.or op_notN op_notBl) fun x y H Q k => ?_
  obtain ⟨R, P, S, a, b, Za, Zb, p, rh, ph, ra, rb, e, k⟩ := k
  unfold opIsNot at e
  split at e
  · rename_i eb
    cases q : isNonT a.tr with
    | none => rw [q] at e; cases e
    | some t =>
      rw [q] at e; cases e
      refine .inl ⟨dat_non (pD_rep rh ph rb eb), ?_⟩
      rw [pv_non ph ra q]
      exact k _ R H NoA (PF.refl rh) (Rep.dat (.bl _))
  · rename_i j eb
    split at e
    · rename_i i ea
      cases e
      exact .inr ⟨i, j, dat_bl (pD_rep rh ph ra ea), dat_bl (pD_rep rh ph rb eb), k _ R H NoA (PF.refl rh) (Rep.dat (.bl _))⟩
    · cases e
  · cases e

/-- in, not in, of lists -/
def opIn (a b : PV) : Option PV := match pD a, pD b with
  | some d, some (.list ds) => if (SeqAt.shaped d && SeqAt.shaped (.list ds)) = true then some (vBl (ds.any fun z => PyData.eqv z d)) else none
  | _, _ => none
def opNotIn (a b : PV) : Option PV := match pD a, pD b with
  | some d, some (.list ds) => if (SeqAt.shaped d && SeqAt.shaped (.list ds)) = true then some (vBl (!ds.any fun z => PyData.eqv z d)) else none
  | _, _ => none
theorem ok_in (hu : X.A.units + 65 < cLine) : OpK X (compareOp .In) opIn := by
  refine OpR.imp (op_inD hu) fun x y H Q k => ?_
  obtain ⟨R, P, S, a, b, Za, Zb, p, rh, ph, ra, rb, e, k⟩ := k
  unfold opIn at e
  split at e
  · rename_i d d' ea eb
    split at e
    · rename_i c
      cases e
      obtain ⟨c1, c2⟩ := Bool.and_eq_true_iff.mp c
      exact ⟨d, d', (pD_rep rh ph ra ea).dp (SeqAt.canLay_of_shaped c1), (pD_rep rh ph rb eb).dp (SeqAt.canLay_of_shaped c2), c1, c2, k _ R H NoA (PF.refl rh) (Rep.dat (.bl _))⟩
    · cases e
  · cases e
theorem ok_notIn (hu : X.A.units + 65 < cLine) : OpK X (compareOp .NotIn) opNotIn := by
  refine OpR.imp (op_notInD hu) fun x y H Q k => ?_
  obtain ⟨R, P, S, a, b, Za, Zb, p, rh, ph, ra, rb, e, k⟩ := k
  unfold opNotIn at e
  split at e
  · rename_i d d' ea eb
    split at e
    · rename_i c
      cases e
      obtain ⟨c1, c2⟩ := Bool.and_eq_true_iff.mp c
      exact ⟨d, d', (pD_rep rh ph ra ea).dp (SeqAt.canLay_of_shaped c1), (pD_rep rh ph rb eb).dp (SeqAt.canLay_of_shaped c2), c1, c2, k _ R H NoA (PF.refl rh) (Rep.dat (.bl _))⟩
    · cases e
  · cases e
end
end VS

set_option Elab.async false
set_option linter.all false
set_option maxRecDepth 100000
/-! Value semantics, 5: tests, and / or / not, conditional expressions, statements without loops. -/
namespace VS
open PySem L2

def pB (p : PV) : Option Bool := match pD p with
  | some (.bool b) => some b
  | _ => none
def TrP (K : PySem.W.Frag) (W : WX) (σ : St) (P : Hp) (env : List T) (R H : Hp) (S : ASet) (Q : Bool → Hp → Prop) : Er → Prop
  | .ok q p env' => ∃ b, pB p = some b ∧ ∀ v R' H' S' Z, Stp K σ P env R H S q env' R' H' S' Z → PvR K R' P H' S' p v Z → Q b H'
  | .x ex env' => ∀ c d R' H' S', SR K env' σ R' P H' S' → Fr R H S R' H' S' → ExR K R' H' ex c d → W c d σ H'
/-- a test -/
def rdT (K : PySem.W.Frag) (W : WX) (f : Es) : TT := fun σ H Q => ∃ env R P S r, SR K env σ R P H S ∧ f env = some r ∧ TrP K W σ P env R H S Q r
abbrev TJ (X : Cx) (W : WX) (e : Expr) (f : Es) : Prop := PT X e (rdT X.K W f)
abbrev WJ (X : Cx) (W : WX) (e : Expr) (f : Es) : Prop := PW X e (rdT X.K W f)

section
variable {K : PySem.W.Frag} {W : WX} {σ : St} {R P H R1 H1 R2 H2 : Hp} {S S1 S2 Z Z1 Z2 : ASet} {env env1 env2 : List T} {q q1 q2 : Bool} {p : PV} {v : V} {f g : Es}
/-- one step behind another, the first one's value let go -/
theorem Stp.next (s : Stp K σ P env R H S q1 env1 R1 H1 S1 Z1) (s2 : Stp K σ P env1 R1 H1 S1 q2 env2 R2 H2 S2 Z2) : Stp K σ P env R H S (q1 && q2) env2 R2 H2 S2 Z2 := by
  have th : ∀ x, NoA x → ∃ o, H1 x = some o := fun _ h => h.elim
  have z := ((s.drop (Z' := NoA) fun _ h => h.elim).both th s2).1
  rw [no_two] at z
  exact z
theorem Stp.frX (s : Stp K σ P env R H S q1 env1 R1 H1 S1 Z1) (g : Fr R1 H1 S1 R2 H2 S2) : Fr R H S R2 H2 S2 := (s.fr.narrow (Z := S1) fun _ h => .inl h).trans g
theorem pB_bl (rh : RSub R H) (ph : RSub P H) (r : PvR K R P H S p v Z) {b : Bool} (e : pB p = some b) : v = .bl b := by
  unfold pB at e
  split at e
  · rename_i d
    cases e
    exact dat_bl (pD_rep rh ph r d)
  · cases e
theorem rdT_E {Q : Bool → Hp → Prop} (h : rdT K W f σ H Q) : rdE K W f σ H fun x H' => ∃ k, x = .bl k ∧ Q k H' := by
  obtain ⟨env, R, P, S, r, sr, hr, post⟩ := h
  refine ⟨env, R, P, S, r, sr, hr, ?_⟩
  cases r with
  | ok q p env' =>
    obtain ⟨b, e, post⟩ := post
    exact fun v R' H' S' Z t r => ⟨b, pB_bl t.sr.rh t.sr.ph r e, post v R' H' S' Z t r⟩
  | x ex env' => exact post
end
section
variable {X : Cx} {W : WX} {a b c : Expr} {rest : List Expr} {fa fb fc : Es} {pos : Pos}
theorem tj_val {e : Expr} {f : Es} (h : EJ X W e f) (he : ∀ whole, isTrue e X.env whole = (do let v ← whole; standAt e.pos; holding [v] (truthy v)) := by intro _; rfl) : TJ X W e f :=
  PT.imp (pt_val h he) fun _ _ _ q => rdT_E q
theorem tj_cmp {o : CmpOp} {op : PV → PV → Option PV} (ho : OpK X (compareOp o) op) (ha : EJ X W a fa) (hb : EJ X W b fb) (hm : behindInMarks o b = false := by rfl) : TJ X W (.Compare a [o] [b] pos) (e2 op fa fb) :=
  PT.imp (pt_cmpR ho ha hb hm) fun _ _ _ q => e2_imp (rdT_E q)

def eNot (fa : Es) : Es := fun env => match fa env with
  | some (.ok q p env1) => (pB p).map fun b => .ok q (vBl (!b)) env1
  | r => r
def eAnd (fa fb : Es) : Es := fun env => match fa env with
  | some (.ok q p env1) => match pB p with
    | some true => match fb env1 with
      | some (.ok q2 p2 env2) => some (.ok (q && q2) p2 env2)
      | r => r
    | some false => some (.ok q (vBl false) env1)
    | none => none
  | r => r
def eOr (fa fb : Es) : Es := fun env => match fa env with
  | some (.ok q p env1) => match pB p with
    | some false => match fb env1 with
      | some (.ok q2 p2 env2) => some (.ok (q && q2) p2 env2)
      | r => r
    | some true => some (.ok q (vBl true) env1)
    | none => none
  | r => r
def eIf (fc fa fb : Es) : Es := fun env => match fc env with
  | some (.ok q p env1) => match pB p with
    | some k => match (if k = true then fa env1 else fb env1) with
      | some (.ok q2 p2 env2) => some (.ok (q && q2) p2 env2)
      | r => r
    | none => none
  | r => r
section
variable {K : PySem.W.Frag} {σ : St} {H : Hp}
theorem pvr_bl {R P H : Hp} {S : ASet} {b : Bool} : PvR K R P H S (vBl b) (.bl b) NoA := Rep.dat (.bl b)
theorem eNot_imp {Q : Bool → Hp → Prop} (h : rdT K W (eNot fa) σ H Q) : rdT K W fa σ H fun b H' => Q (!b) H' := by
  obtain ⟨env, R, P, S, r, sr, hr, post⟩ := h
  unfold eNot at hr
  cases ha : fa env with
  | none => rw [ha] at hr; cases hr
  | some ra =>
    rw [ha] at hr
    refine ⟨env, R, P, S, _, sr, ha, ?_⟩
    cases ra with
    | x ex e1 => cases hr; exact post
    | ok q p env1 =>
      simp only at hr
      cases hb : pB p with
      | none => rw [hb] at hr; cases hr
      | some k =>
        rw [hb] at hr; cases hr
        obtain ⟨b', e, post⟩ := post
        cases e
        exact ⟨k, hb, fun v R' H' S' Z t r => post (.bl (!k)) R' H' S' NoA (t.drop fun _ h => h.elim) pvr_bl⟩
theorem eAnd_imp {Q : Bool → Hp → Prop} (h : rdT K W (eAnd fa fb) σ H Q) : tAnd (rdT K W fa) (rdT K W fb) σ H Q := by
  obtain ⟨env, R, P, S, r, sr, hr, post⟩ := h
  unfold eAnd at hr
  cases ha : fa env with
  | none => rw [ha] at hr; cases hr
  | some ra =>
    rw [ha] at hr
    refine ⟨env, R, P, S, _, sr, ha, ?_⟩
    cases ra with
    | x ex e1 => cases hr; exact post
    | ok q p env1 =>
      simp only at hr
      cases hb : pB p with
      | none => rw [hb] at hr; cases hr
      | some k =>
        rw [hb] at hr
        refine ⟨k, hb, fun v R1 H1 S1 Z1 t r => ?_⟩
        cases k with
        | false =>
          cases hr
          obtain ⟨b', e, post⟩ := post
          cases e
          exact post (.bl false) R1 H1 S1 NoA (t.drop fun _ h => h.elim) pvr_bl
        | true =>
          simp only at hr
          rw [if_pos rfl]
          cases hf : fb env1 with
          | none => rw [hf] at hr; cases hr
          | some rb =>
            rw [hf] at hr
            refine ⟨env1, R1, P, S1, _, t.sr, hf, ?_⟩
            cases rb with
            | x ex e2 => cases hr; exact fun c d R' H' S' s' f' ex' => post c d R' H' S' s' (t.frX f') ex'
            | ok q2 p2 env2 =>
              cases hr
              obtain ⟨b', e, post⟩ := post
              exact ⟨b', e, fun v R' H' S' Z t2 r2 => post v R' H' S' Z (t.next t2) r2⟩
theorem eOr_imp {Q : Bool → Hp → Prop} (h : rdT K W (eOr fa fb) σ H Q) : tOr (rdT K W fa) (rdT K W fb) σ H Q := by
  obtain ⟨env, R, P, S, r, sr, hr, post⟩ := h
  unfold eOr at hr
  cases ha : fa env with
  | none => rw [ha] at hr; cases hr
  | some ra =>
    rw [ha] at hr
    refine ⟨env, R, P, S, _, sr, ha, ?_⟩
    cases ra with
    | x ex e1 => cases hr; exact post
    | ok q p env1 =>
      simp only at hr
      cases hb : pB p with
      | none => rw [hb] at hr; cases hr
      | some k =>
        rw [hb] at hr
        refine ⟨k, hb, fun v R1 H1 S1 Z1 t r => ?_⟩
        cases k with
        | true =>
          cases hr
          obtain ⟨b', e, post⟩ := post
          cases e
          exact post (.bl true) R1 H1 S1 NoA (t.drop fun _ h => h.elim) pvr_bl
        | false =>
          simp only at hr
          rw [if_neg Bool.false_ne_true]
          cases hf : fb env1 with
          | none => rw [hf] at hr; cases hr
          | some rb =>
            rw [hf] at hr
            refine ⟨env1, R1, P, S1, _, t.sr, hf, ?_⟩
            cases rb with
            | x ex e2 => cases hr; exact fun c d R' H' S' s' f' ex' => post c d R' H' S' s' (t.frX f') ex'
            | ok q2 p2 env2 =>
              cases hr
              obtain ⟨b', e, post⟩ := post
              exact ⟨b', e, fun v R' H' S' Z t2 r2 => post v R' H' S' Z (t.next t2) r2⟩
/-- .. as values -/
theorem eNotV_imp {Q : VK} (h : rdE K W (eNot fa) σ H Q) : tNotV (rdE K W fa) σ H Q := by
  obtain ⟨env, R, P, S, r, sr, hr, post⟩ := h
  unfold eNot at hr
  cases ha : fa env with
  | none => rw [ha] at hr; cases hr
  | some ra =>
    rw [ha] at hr
    refine ⟨env, R, P, S, _, sr, ha, ?_⟩
    cases ra with
    | x ex e1 => cases hr; exact post
    | ok q p env1 =>
      simp only at hr
      cases hb : pB p with
      | none => rw [hb] at hr; cases hr
      | some k =>
        rw [hb] at hr; cases hr
        exact fun v R' H' S' Z t r => ⟨k, pB_bl t.sr.rh t.sr.ph r hb, post (.bl (!k)) R' H' S' NoA (t.drop fun _ h => h.elim) pvr_bl⟩
theorem eAndV_imp {Q : VK} (h : rdE K W (eAnd fa fb) σ H Q) : tAndV (rdE K W fa) (rdE K W fb) σ H Q := by
  obtain ⟨env, R, P, S, r, sr, hr, post⟩ := h
  unfold eAnd at hr
  cases ha : fa env with
  | none => rw [ha] at hr; cases hr
  | some ra =>
    rw [ha] at hr
    refine ⟨env, R, P, S, _, sr, ha, ?_⟩
    cases ra with
    | x ex e1 => cases hr; exact post
    | ok q p env1 =>
      simp only at hr
      cases hb : pB p with
      | none => rw [hb] at hr; cases hr
      | some k =>
        rw [hb] at hr
        refine fun v R1 H1 S1 Z1 t r => ⟨k, pB_bl t.sr.rh t.sr.ph r hb, ?_⟩
        cases k with
        | false =>
          cases hr
          exact post (.bl false) R1 H1 S1 NoA (t.drop fun _ h => h.elim) pvr_bl
        | true =>
          simp only at hr
          rw [if_pos rfl]
          cases hf : fb env1 with
          | none => rw [hf] at hr; cases hr
          | some rb =>
            rw [hf] at hr
            refine ⟨env1, R1, P, S1, _, t.sr, hf, ?_⟩
            cases rb with
            | x ex e2 => cases hr; exact fun c d R' H' S' s' f' ex' => post c d R' H' S' s' (t.frX f') ex'
            | ok q2 p2 env2 =>
              cases hr
              exact fun v R' H' S' Z t2 r2 => post v R' H' S' Z (t.next t2) r2
theorem eOrV_imp {Q : VK} (h : rdE K W (eOr fa fb) σ H Q) : tOrV (rdE K W fa) (rdE K W fb) σ H Q := by
  obtain ⟨env, R, P, S, r, sr, hr, post⟩ := h
  unfold eOr at hr
  cases ha : fa env with
  | none => rw [ha] at hr; cases hr
  | some ra =>
    rw [ha] at hr
    refine ⟨env, R, P, S, _, sr, ha, ?_⟩
    cases ra with
    | x ex e1 => cases hr; exact post
    | ok q p env1 =>
      simp only at hr
      cases hb : pB p with
      | none => rw [hb] at hr; cases hr
      | some k =>
        rw [hb] at hr
        refine fun v R1 H1 S1 Z1 t r => ⟨k, pB_bl t.sr.rh t.sr.ph r hb, ?_⟩
        cases k with
        | true =>
          cases hr
          exact post (.bl true) R1 H1 S1 NoA (t.drop fun _ h => h.elim) pvr_bl
        | false =>
          simp only at hr
          rw [if_neg Bool.false_ne_true]
          cases hf : fb env1 with
          | none => rw [hf] at hr; cases hr
          | some rb =>
            rw [hf] at hr
            refine ⟨env1, R1, P, S1, _, t.sr, hf, ?_⟩
            cases rb with
            | x ex e2 => cases hr; exact fun c d R' H' S' s' f' ex' => post c d R' H' S' s' (t.frX f') ex'
            | ok q2 p2 env2 =>
              cases hr
              exact fun v R' H' S' Z t2 r2 => post v R' H' S' Z (t.next t2) r2
theorem eIf_imp {Q : VK} (h : rdE K W (eIf fc fa fb) σ H Q) : tIf (rdT K W fc) (rdE K W fa) (rdE K W fb) σ H Q := by
  obtain ⟨env, R, P, S, r, sr, hr, post⟩ := h
  unfold eIf at hr
  cases ha : fc env with
  | none => rw [ha] at hr; cases hr
  | some ra =>
    rw [ha] at hr
    refine ⟨env, R, P, S, _, sr, ha, ?_⟩
    cases ra with
    | x ex e1 => cases hr; exact post
    | ok q p env1 =>
      simp only at hr
      cases hb : pB p with
      | none => rw [hb] at hr; cases hr
      | some k =>
        rw [hb] at hr
        refine ⟨k, hb, fun v R1 H1 S1 Z1 t rv => ?_⟩
        simp only at hr
        have go : ∀ {g : Es}, (match g env1 with | some (.ok q2 p2 env2) => some (.ok (q && q2) p2 env2) | z => z) = some r → rdE K W g σ H1 Q := by
          intro g hr
          cases hf : g env1 with
          | none => rw [hf] at hr; cases hr
          | some rb =>
            rw [hf] at hr
            refine ⟨env1, R1, P, S1, _, t.sr, hf, ?_⟩
            cases rb with
            | x ex e2 => cases hr; exact fun c d R' H' S' s' f' ex' => post c d R' H' S' s' (t.frX f') ex'
            | ok q2 p2 env2 =>
              cases hr
              exact fun v R' H' S' Z t2 r2 => post v R' H' S' Z (t.next t2) r2
        cases k with
        | true => rw [if_pos rfl] at hr; exact go hr
        | false => rw [if_neg Bool.false_ne_true] at hr; exact go hr
end
theorem tj_not (h : TJ X W a fa) : TJ X W (.UnaryOp .Not a pos) (eNot fa) := PT.imp (pt_not h) fun _ _ _ q => eNot_imp q
theorem ej_not (h : EJ X W a fa) : EJ X W (.UnaryOp .Not a pos) (eNot fa) := PE.imp (pe_not h) fun _ _ _ q => eNotV_imp q
theorem wj_and (h : TJ X W a fa) (k : WJ X W (.BoolOp .And (b :: rest) pos) fb) : WJ X W (.BoolOp .And (a :: b :: rest) pos) (eAnd fa fb) := PW.imp (pw_and h k) fun _ _ _ q => eAnd_imp q
theorem wj_or (h : TJ X W a fa) (k : WJ X W (.BoolOp .Or (b :: rest) pos) fb) : WJ X W (.BoolOp .Or (a :: b :: rest) pos) (eOr fa fb) := PW.imp (pw_or h k) fun _ _ _ q => eOr_imp q
theorem ej_and (h : EJ X W a fa) (k : EJ X W (.BoolOp .And (b :: rest) pos) fb) : EJ X W (.BoolOp .And (a :: b :: rest) pos) (eAnd fa fb) := PE.imp (pe_and h k) fun _ _ _ q => eAndV_imp q
theorem ej_or (h : EJ X W a fa) (k : EJ X W (.BoolOp .Or (b :: rest) pos) fb) : EJ X W (.BoolOp .Or (a :: b :: rest) pos) (eOr fa fb) := PE.imp (pe_or h k) fun _ _ _ q => eOrV_imp q
theorem ej_if (hc : TJ X W c fc) (ha : EJ X W a fa) (hb : EJ X W b fb) : EJ X W (.IfExp c a b pos) (eIf fc fa fb) := PE.imp (pe_ifExp hc ha hb) fun _ _ _ q => eIf_imp q
end
end VS

set_option Elab.async false
set_option linter.all false
set_option maxRecDepth 100000
/-! Value semantics, 6: statements without loops. -/
namespace VS
open PySem L2

inductive Out where
  | nx (e : List T)
  | rt (t : T) (e : List T)
  | bk (e : List T)
  | ct (e : List T)
  | x (ex : Ex) (e : List T)
abbrev Ss := List T → Option Out
/-- the slots of B keep their values -/
def Fix (B : List Nat) (σ σ' : St) : Prop := σ'.length = σ.length ∧ ∀ i ∈ B, σ'[i]? = σ[i]?
theorem Fix.refl (B : List Nat) (σ : St) : Fix B σ σ := ⟨rfl, fun _ _ => rfl⟩
theorem Fix.trans {B : List Nat} {σ σ1 σ2 : St} (a : Fix B σ σ1) (b : Fix B σ1 σ2) : Fix B σ σ2 := ⟨b.1.trans a.1, fun i h => (b.2 i h).trans (a.2 i h)⟩
structure Mv (K : PySem.W.Frag) (B : List Nat) (P : Hp) (σ : St) (R H : Hp) (S : ASet) (env' : List T) (σ' : St) (R' H' : Hp) (S' Z : ASet) : Prop where
  sr : SR K env' σ' R' P H' S'
  ap : Apart Z S'
  zf : ∀ a, Z a → R' a = none ∧ P a = none
  fr : Fr R H S R' H' (TwoA S' Z)
  fx : Fix B σ σ'
def OutP (K : PySem.W.Frag) (W : WX) (B : List Nat) (P : Hp) (σ : St) (R H : Hp) (S : ASet) (D : Ends) : Out → Prop
  | .nx env' => ∀ σ' R' H' S', Mv K B P σ R H S env' σ' R' H' S' NoA → D.nx σ' H'
  | .bk env' => ∀ σ' R' H' S', Mv K B P σ R H S env' σ' R' H' S' NoA → D.bk σ' H'
  | .ct env' => ∀ σ' R' H' S', Mv K B P σ R H S env' σ' R' H' S' NoA → D.ct σ' H'
  | .rt t env' => ∀ v σ' R' H' S' Z, Mv K B P σ R H S env' σ' R' H' S' Z → Rep K R' H' t v Z → D.rt v H'
  | .x ex env' => ∀ c d σ' R' H' S', Mv K B P σ R H S env' σ' R' H' S' NoA → ExR K R' H' ex c d → W c d σ' H'
def rdS (K : PySem.W.Frag) (W : WX) (B : List Nat) (g : Ss) : TS := fun D σ H => ∃ env R P S o, SR K env σ R P H S ∧ g env = some o ∧ OutP K W B P σ R H S D o
abbrev SJ (X : Cx) (W : WX) (B : List Nat) (st : Stmt) (g : Ss) : Prop := PS X st (rdS X.K W B g)
abbrev SJs (X : Cx) (W : WX) (B : List Nat) (st : List Stmt) (g : Ss) : Prop := PSs X st (rdS X.K W B g)

section
variable {K : PySem.W.Frag} {W : WX} {B : List Nat} {σ σ1 σ2 : St} {R P H R1 H1 R2 H2 : Hp} {S S1 S2 Z Z1 Z2 : ASet} {env env1 env2 : List T} {q : Bool} {p : PV} {v : V} {f : Es} {g g' : Ss} {D : Ends}
theorem Mv.trans (a : Mv K B P σ R H S env1 σ1 R1 H1 S1 NoA) (b : Mv K B P σ1 R1 H1 S1 env2 σ2 R2 H2 S2 Z) : Mv K B P σ R H S env2 σ2 R2 H2 S2 Z :=
  ⟨b.sr, b.ap, b.zf, (a.fr.narrow (Z := S1) fun _ h => .inl h).trans b.fr, a.fx.trans b.fx⟩
theorem Stp.mv (s : Stp K σ P env R H S q env1 R1 H1 S1 Z) : Mv K B P σ R H S env1 σ R1 H1 S1 Z := ⟨s.sr, s.ap, s.zf, s.fr, Fix.refl B σ⟩
theorem Mv.drop (a : Mv K B P σ R H S env1 σ1 R1 H1 S1 Z) : Mv K B P σ R H S env1 σ1 R1 H1 S1 NoA :=
  ⟨a.sr, noA_apart, fun _ h => h.elim, a.fr.narrow fun _ h => h.imp_right fun z => z.elim, a.fx⟩
theorem OutP.from (a : Mv K B P σ R H S env1 σ1 R1 H1 S1 NoA) : ∀ {o : Out}, OutP K W B P σ R H S D o → OutP K W B P σ1 R1 H1 S1 D o
  | .nx _, k => fun σ' R' H' S' m => k σ' R' H' S' (a.trans m)
  | .bk _, k => fun σ' R' H' S' m => k σ' R' H' S' (a.trans m)
  | .ct _, k => fun σ' R' H' S' m => k σ' R' H' S' (a.trans m)
  | .rt _ _, k => fun v σ' R' H' S' Z m r => k v σ' R' H' S' Z (a.trans m) r
  | .x _ _, k => fun c d σ' R' H' S' m r => k c d σ' R' H' S' (a.trans m) r
theorem exc_of (a : Fr R H S R1 H1 S1) (s : SR K env1 σ R1 P H1 S1) : Mv K B P σ R H S env1 σ R1 H1 S1 NoA :=
  ⟨s, noA_apart, fun _ h => h.elim, a.narrow fun _ h => h.elim id False.elim, Fix.refl B σ⟩

def sNil : Ss := fun env => some (.nx env)
def sSeq (g g' : Ss) : Ss := fun env => match g env with
  | some (.nx e) => g' e
  | r => r
theorem sSeq_imp (h : rdS K W B (sSeq g g') D σ H) : tSeq (rdS K W B g) (rdS K W B g') D σ H := by
  obtain ⟨env, R, P, S, o, sr, ho, post⟩ := h
  unfold sSeq at ho
  cases hg : g env with
  | none => rw [hg] at ho; cases ho
  | some o1 =>
    rw [hg] at ho
    refine ⟨env, R, P, S, o1, sr, hg, ?_⟩
    cases o1 with
    | nx e => exact fun σ' R' H' S' m => ⟨e, R', P, S', o, m.sr, ho, OutP.from m post⟩
    | rt t e => cases ho; exact post
    | bk e => cases ho; exact post
    | ct e => cases ho; exact post
    | x ex e => cases ho; exact post

/-- a slot gets a tree of its own -/
theorem RepSl.put : ∀ {es : List T} {σ : St} {S : ASet} {i : Nat} {t : T} {v : V} {Z : ASet}, RepSl K R P H es σ S → i < es.length → RepA K R P H t v Z → Apart Z S → ∃ S', RepSl K R P H (es.set i t) (σ.set i (some v)) S' ∧ ∀ a, S' a → S a ∨ Z a
  | _, _, _, _, _, _, _, .nil, h, _, _ => absurd h (by simp)
  | _, _, _, 0, t, v, Z, .no (S := S) b, _, r, n => ⟨_, .so r b n, fun a h => h.elim .inr .inl⟩
  | _, _, _, 0, t, v, Z, .so (S' := S') a b _, _, r, n => ⟨_, .so r b fun x h k => n x h (.inr k), fun a h => h.elim .inr fun k => .inl (.inr k)⟩
  | _, _, _, i + 1, t, v, Z, .no b, h, r, n => by
    obtain ⟨S', x, y⟩ := RepSl.put (i := i) b (by simpa using h) r n
    exact ⟨S', .no x, y⟩
  | _, _, _, i + 1, t, v, Z, .so (S := S1) a b n1, h, r, n => by
    obtain ⟨S', x, y⟩ := RepSl.put (i := i) b (by simpa using h) r fun x h k => n x h (.inr k)
    exact ⟨_, .so a x fun z h k => (y z k).elim (n1 z h) fun q => n z q (.inl h), fun z h => h.elim (fun k => .inl (.inl k)) fun k => (y z k).elim (fun k => .inl (.inr k)) .inr⟩
theorem RepSl.length : ∀ {es : List T} {σ : St} {S : ASet}, RepSl K R P H es σ S → σ.length = es.length
  | _, _, _, .nil => rfl
  | _, _, _, .no b => congrArg (· + 1) b.length
  | _, _, _, .so _ b _ => congrArg (· + 1) b.length
theorem Mv.put (m : Mv K B P σ R H S env1 σ1 R1 H1 S1 Z) {i : Nat} {t : T} (hi : i < env1.length) (hb : i ∉ B) (r : Rep K R1 H1 t v Z) : ∃ S2, Mv K B P σ R H S (env1.set i t) (σ1.set i (some v)) R1 H1 S2 NoA := by
  obtain ⟨S2, x, y⟩ := m.sr.sl.put hi (.own r) m.ap
  refine ⟨S2, ⟨x, m.sr.rh, m.sr.ph, fun a h => ?_⟩, noA_apart, fun _ h => h.elim, m.fr.narrow fun a h => ?_, by rw [List.length_set]; exact m.fx.1, fun j hj => ?_⟩
  · rcases y a h with z | z
    · exact m.sr.sf a z
    · exact m.zf a z
  · exact h.elim (y a) fun z => z.elim
  · have ne : j ≠ i := fun e => hb (e ▸ hj)
    rw [List.getElem?_set_ne (Ne.symm ne)]
    exact m.fx.2 j hj
/-- a slot's tree, taken out -/
theorem RepSl.take : ∀ {es : List T} {σ : St} {S : ASet} {i : Nat} {t : T}, RepSl K R P H es σ S → es[i]? = some t → t = .un ∨ ∃ v Z S', σ[i]? = some (some v) ∧ RepA K R P H t v Z ∧ RepSl K R P H (es.set i .un) σ S' ∧ Apart Z S' ∧ (∀ a, S a ↔ S' a ∨ Z a)
  | _, _, _, _, _, .nil, e => by simp at e
  | _, _, _, 0, _, .no _, e => by simp at e; exact .inl e.symm
  | _, _, _, i + 1, _, .no b, e => by
    rcases RepSl.take (i := i) b (by simpa using e) with h | ⟨v, Z, S', h1, h2, h3, h4, h5⟩
    · exact .inl h
    · exact .inr ⟨v, Z, S', by simpa using h1, h2, .no h3, h4, h5⟩
  | _, _, _, 0, _, .so a b n, e => by simp at e; subst e; exact .inr ⟨_, _, _, rfl, a, .no b, n, fun x => Or.comm⟩
  | _, _, _, i + 1, _, .so (S := S1) a b n, e => by
    rcases RepSl.take (i := i) b (by simpa using e) with h | ⟨v, Z, S', h1, h2, h3, h4, h5⟩
    · exact .inl h
    · refine .inr ⟨v, Z, _, by simpa using h1, h2, .so a h3 fun x p q => n x p ((h5 x).mpr (.inl q)), fun x p q => ?_, fun x => ?_⟩
      · rcases q with q | q
        · exact n x q ((h5 x).mpr (.inr p))
        · exact h4 x p q
      · constructor
        · rintro (q | q)
          · exact .inl (.inl q)
          · exact ((h5 x).mp q).imp_left .inr
        · rintro ((q | q) | q)
          · exact .inl q
          · exact .inr ((h5 x).mpr (.inl q))
          · exact .inr ((h5 x).mpr (.inr q))
end

/-- what may be kept of a value -/
def keep : PV → Option T
  | .fr t => some t
  | .vw _ => none
  | .pv _ => none
def sSet (i : Nat) (f : Es) : Ss := fun env => match f env with
  | some (.ok _ p e) => match keep p with
    | some t => if i < e.length then some (.nx (e.set i t)) else none
    | none => none
  | some (.x ex e) => some (.x ex e)
  | none => none
def sRet (f : Es) : Ss := fun env => match f env with
  | some (.ok _ p e) => (keep p).map fun t => .rt t e
  | some (.x ex e) => some (.x ex e)
  | none => none
def sExpr (f : Es) : Ss := fun env => match f env with
  | some (.ok _ _ e) => some (.nx e)
  | some (.x ex e) => some (.x ex e)
  | none => none
def sIf (f : Es) (g g' : Ss) : Ss := fun env => match f env with
  | some (.ok _ p e) => match pB p with
    | some k => if k = true then g e else g' e
    | none => none
  | some (.x ex e) => some (.x ex e)
  | none => none
/-- a name is read for the last time: its slot gives its tree away -/
def eMv (i : Nat) : Es := fun env => match env[i]? with
  | some .un => none
  | some (.vw _) => none
  | some t => some (.ok false (.fr t) (env.set i .un))
  | none => none
section
variable {K : PySem.W.Frag} {W : WX} {B : List Nat} {σ : St} {H : Hp} {f : Es} {g g' : Ss} {D : Ends}
theorem keep_rep {R P H : Hp} {p : PV} {v : V} {Z : ASet} {t : T} {S : ASet} (r : PvR K R P H S p v Z) (e : keep p = some t) : Rep K R H t v Z := by
  cases p with
  | fr u => cases e; exact r
  | vw u => cases e
  | pv u => cases e
theorem sSet_imp {i : Nat} (hb : i ∉ B) (h : rdS K W B (sSet i f) D σ H) : tAsg (rdE K W f) (gName i) D σ H := by
  obtain ⟨env, R, P, S, o, sr, ho, post⟩ := h
  unfold sSet at ho
  cases hf : f env with
  | none => rw [hf] at ho; cases ho
  | some r =>
    rw [hf] at ho
    refine ⟨env, R, P, S, r, sr, hf, ?_⟩
    cases r with
    | x ex e => cases ho; exact fun c d R' H' S' s' f' x' => post c d σ R' H' S' (exc_of f' s') x'
    | ok q p e =>
      simp only at ho
      cases hk : keep p with
      | none => rw [hk] at ho; cases ho
      | some t =>
        rw [hk] at ho
        simp only at ho
        split at ho
        · rename_i hl
          cases ho
          intro v R' H' S' Z st rv
          obtain ⟨S2, m⟩ := (st.mv (B := B)).put hl hb (keep_rep rv hk)
          exact post _ R' H' S2 m
        · cases ho
theorem sRet_imp (h : rdS K W B (sRet f) D σ H) : tRet (rdE K W f) D σ H := by
  obtain ⟨env, R, P, S, o, sr, ho, post⟩ := h
  unfold sRet at ho
  cases hf : f env with
  | none => rw [hf] at ho; cases ho
  | some r =>
    rw [hf] at ho
    refine ⟨env, R, P, S, r, sr, hf, ?_⟩
    cases r with
    | x ex e => cases ho; exact fun c d R' H' S' s' f' x' => post c d σ R' H' S' (exc_of f' s') x'
    | ok q p e =>
      simp only at ho
      cases hk : keep p with
      | none => rw [hk] at ho; cases ho
      | some t =>
        rw [hk] at ho; cases ho
        exact fun v R' H' S' Z st rv => post v σ R' H' S' Z st.mv (keep_rep rv hk)
theorem sExpr_imp (h : rdS K W B (sExpr f) D σ H) : tDrop (rdE K W f) D σ H := by
  obtain ⟨env, R, P, S, o, sr, ho, post⟩ := h
  unfold sExpr at ho
  cases hf : f env with
  | none => rw [hf] at ho; cases ho
  | some r =>
    rw [hf] at ho
    refine ⟨env, R, P, S, r, sr, hf, ?_⟩
    cases r with
    | x ex e => cases ho; exact fun c d R' H' S' s' f' x' => post c d σ R' H' S' (exc_of f' s') x'
    | ok q p e => cases ho; exact fun v R' H' S' Z st rv => post σ R' H' S' st.mv.drop
theorem sIf_imp (h : rdS K W B (sIf f g g') D σ H) : tIfS (rdT K W f) (rdS K W B g) (rdS K W B g') D σ H := by
  obtain ⟨env, R, P, S, o, sr, ho, post⟩ := h
  unfold sIf at ho
  cases hf : f env with
  | none => rw [hf] at ho; cases ho
  | some r =>
    rw [hf] at ho
    refine ⟨env, R, P, S, r, sr, hf, ?_⟩
    cases r with
    | x ex e => cases ho; exact fun c d R' H' S' s' f' x' => post c d σ R' H' S' (exc_of f' s') x'
    | ok q p e =>
      simp only at ho
      cases hk : pB p with
      | none => rw [hk] at ho; cases ho
      | some k =>
        rw [hk] at ho
        refine ⟨k, hk, fun v R' H' S' Z st rv => ?_⟩
        have m := (st.mv (B := B)).drop
        cases k with
        | true => exact ⟨e, R', P, S', o, m.sr, ho, OutP.from m post⟩
        | false => exact ⟨e, R', P, S', o, m.sr, ho, OutP.from m post⟩
theorem eMv_imp {i : Nat} {Q : VK} (h : rdE K W (eMv i) σ H Q) : tVar i σ H Q := by
  obtain ⟨env, R, P, S, o, sr, ho, post⟩ := h
  unfold eMv at ho
  split at ho
  · cases ho
  · cases ho
  · rename_i t nu nv ht
    cases ho
    rcases sr.sl.take ht with rfl | ⟨v, Z, S', h1, h2, h3, h4, h5⟩
    · exact (nu rfl).elim
    · cases h2 with
      | vw _ => exact (nv _ rfl).elim
      | own h2 =>
        refine ⟨v, h1, post v R H S' Z ⟨⟨h3, sr.rh, sr.ph, fun a h => sr.sf a ((h5 a).mpr (.inl h))⟩, h4, fun a h => sr.sf a ((h5 a).mpr (.inr h)), (Fr.refl R H S).narrow fun a h => (h5 a).mpr h, fun e => nomatch e⟩ h2⟩
  · cases ho
end
section
variable {X : Cx} {W : WX} {B : List Nat} {a c : Expr} {st : Stmt} {rest : List Stmt} {s1 s2 : List Stmt} {f : Es} {g g' : Ss} {pos : Pos}
theorem ej_mv (i : Nat) {x : Str} (hN : X.N[i]? = some x := by rfl) (hv : Vis X.env.scope x := by first | exact Or.inl rfl | exact Or.inr (Or.inl rfl) | exact Or.inr (Or.inr rfl))
    (hd : (x == ("__debug__" : Str)) = false := by decide) (hcd : (x == ("__classdict__" : Str)) = false := by decide) : EJ X W (.Name x pos) (eMv i) :=
  PE.imp (pe_var (i := i) hN hv hd hcd) fun _ _ _ h => eMv_imp h
theorem sjs_nil : SJs X W B [] sNil := PSs.imp pss_nil fun σ H D h => by
  obtain ⟨env, R, P, S, o, sr, ho, post⟩ := h
  cases ho
  exact post σ R H S sr.stp.mv
theorem sjs_cons (h : SJ X W B st g) (k : SJs X W B rest g') : SJs X W B (st :: rest) (sSeq g g') := PSs.imp (pss_cons h k) fun _ _ _ q => sSeq_imp q
theorem sjs_one (h : SJ X W B st g) : SJs X W B [st] g := pss_one h
theorem sj_ret (h : EJ X W a f) : SJ X W B (.Return (some a) pos) (sRet f) := PS.imp (ps_ret h) fun _ _ _ q => sRet_imp q
theorem sj_expr (h : EJ X W a f) (hs : swapsWith a none pos.line X.env = pure false := by rfl) : SJ X W B (.Expr a pos) (sExpr f) := PS.imp (ps_expr h hs) fun _ _ _ q => sExpr_imp q
theorem sj_if (hc : TJ X W c f) (h1 : SJs X W B s1 g) (h2 : SJs X W B s2 g') : SJ X W B (.If c s1 s2 pos) (sIf f g g') := PS.imp (ps_if hc h1 h2) fun _ _ _ q => sIf_imp q
theorem sj_pass : SJ X W B (.Pass pos) sNil := PS.imp ps_pass fun σ H D h => by
  obtain ⟨env, R, P, S, o, sr, ho, post⟩ := h
  cases ho
  exact post σ R H S sr.stp.mv
theorem sj_set {i : Nat} {x : Str} {pos' : Pos} (hN : X.N.Nodup) (he : EJ X W a f) (hb : i ∉ B := by decide) (hi : X.N[i]? = some x := by rfl) (hx : Loc X.env.scope x := by first | exact Or.inl rfl | exact Or.inr rfl)
    (hs : swapsWith a (some (.Name x pos')) pos.line X.env = pure false := by rfl) (hf : X.fn x = true ∨ X.env.scope.names.lookup x = some .local := by first | exact .inl rfl | exact .inr rfl | assumption) :
    SJ X W B (.Assign [.Name x pos'] a pos) (sSet i f) := PS.imp (ps_set hN hi hx he hs hf) fun _ _ _ q => sSet_imp hb q
end
end VS

set_option Elab.async false
set_option linter.all false
set_option maxRecDepth 100000
/-! Value semantics, 7: what a def promises, its body, calls. -/
namespace VS
open PySem PySem.Spec PyProof.Rows L2

/-- how a call ends: what it hands back or raises; its arguments behind it -/
inductive Fo where
  | ret (t : T) (ts : List T)
  | exc (ex : Ex) (ts : List T)
abbrev Fs := List T → Option Fo
def FoP (K : PySem.W.Frag) (P R H : Hp) (S : ASet) (vs : List V) (Q : VK) (E : XK) : Fo → Prop
  | .ret t ts => ∀ v R' H' S' Z, RepAs K R' P H' ts vs S' → Rep K R' H' t v Z → Apart Z S' → RSub R' H' → (∀ a, S' a ∨ Z a → R' a = none ∧ P a = none) → Fr R H S R' H' (TwoA S' Z) → Q v H'
  | .exc ex ts => ∀ c d R' H' S', RepAs K R' P H' ts vs S' → RSub R' H' → (∀ a, S' a → R' a = none ∧ P a = none) → Fr R H S R' H' S' → ExR K R' H' ex c d → E c d H'
def callSp (K : PySem.W.Frag) (F : Fs) : Sp := fun vs H Q E => ∃ ts R P S r, RepAs K R P H ts vs S ∧ RSub R H ∧ RSub P H ∧ (∀ a, S a → R a = none ∧ P a = none) ∧ F ts = some r ∧ FoP K P R H S vs Q E r

/-- a def keeps its promise, where nothing is being written out around -/
structure FnG (P : Program) (w : World) (K : PySem.W.Frag) (mg : Str → Option Value) (base : Heap) (k : Nat) (f : Addr) (fd : FuncData) (ps : List Str) (F : Fs) : Prop where
  len : ∀ ts r, F ts = some r → ts.length = ps.length
  run : ∀ (A : Around) (outer : List PySem.Env) (s : Shared) (H : Hp) (args : Args) (us : List Value) (vs : List V) (Q : VK) (E : XK), Room k A → A.guards = some [] → Env0 P w K mg base A outer s H → BindsTo s fd args (ps.zip us) → Vals vs us →
    callSp K F vs H Q E → codeAny (model P w) A (.call (.ref f) args) (CR (L2.CX P w) outer P w H s Q E) s
section
variable {P : Program} {w : World} {K : PySem.W.Frag} {mg : Str → Option Value} {base : Heap} {j k : Nat} {f : Addr} {fd : FuncData} {ps : List Str} {F F' : Fs}
theorem FnG.mono (G : FnG P w K mg base j f fd ps F) (h : j ≤ k) : FnG P w K mg base k f fd ps F := ⟨G.len, fun A o s H a us vs Q E hr => G.run A o s H a us vs Q E (hr.mono h)⟩
theorem RepAs.length {R P H : Hp} : ∀ {ts : List T} {vs : List V} {S : ASet}, RepAs K R P H ts vs S → vs.length = ts.length
  | _, _, _, .nil => rfl
  | _, _, _, .cons _ b _ => congrArg (· + 1) b.length
end

/-! ### a body as a function of its arguments -/
def argsOut (B : List Nat) : Nat → Nat → List T → List T
  | _, 0, _ => []
  | _, _ + 1, [] => []
  | i, n + 1, t :: ts => (if i ∈ B then t else .un) :: argsOut B (i + 1) n ts
def fnF (n np : Nat) (B : List Nat) (g : Ss) : Fs := fun ts => if ts.length = np then match g (ts ++ List.replicate (n - np) .un) with
  | some (.nx e) => some (.ret (.dat .none) (argsOut B 0 np e))
  | some (.rt t e) => some (.ret t (argsOut B 0 np e))
  | some (.x ex e) => some (.exc ex (argsOut B 0 np e))
  | _ => none
  else none
section
variable {K : PySem.W.Frag} {R P H : Hp}
theorem sl_uns : ∀ m : Nat, RepSl K R P H (List.replicate m .un) (List.replicate m none) NoA
  | 0 => .nil
  | m + 1 => .no (sl_uns m)
theorem sl_start : ∀ {ts : List T} {vs : List V} {S : ASet} (m : Nat), RepAs K R P H ts vs S → RepSl K R P H (ts ++ List.replicate m .un) (vs.map some ++ List.replicate m none) S
  | _, _, _, m, .nil => sl_uns m
  | _, _, _, m, .cons a b n => .so a (sl_start m b) n
/-- the arguments behind the body -/
theorem args_out (B : List Nat) : ∀ {n i : Nat} {e : List T} {σ : L2.St} {S : ASet} {vs : List V}, RepSl K R P H e σ S → vs.length = n → n ≤ e.length → (∀ j v, vs[j]? = some v → i + j ∈ B → σ[j]? = some (some v)) → ∃ S', RepAs K R P H (argsOut B i n e) vs S' ∧ ∀ a, S' a → S a
  | 0, i, e, σ, S, vs, h, hl, _, _ => by
    have : vs = [] := List.length_eq_zero_iff.mp hl
    subst this
    exact ⟨NoA, by unfold argsOut; exact .nil, fun _ z => z.elim⟩
  | n + 1, i, _, _, _, vs, .nil, hl, hle, _ => by simp at hle
  | n + 1, i, _, _, _, v :: vs, .no (x := x) b, hl, hle, hk => by
    obtain ⟨S', r, s⟩ := args_out B (i := i + 1) b (by simpa using hl) (by simpa using hle) fun j v' h1 h2 => by
      have := hk (j + 1) v' (by simpa using h1) (by rw [Nat.add_comm j 1, ← Nat.add_assoc]; exact h2)
      simpa using this
    have z := RepAs.cons (RepA.own (P := P) (Rep.un (K := K) (R := R) (H := H) (v := v))) r noA_apart
    rw [no_two] at z
    refine ⟨S', ?_, s⟩
    unfold argsOut
    rw [show (if i ∈ B then T.un else T.un) = T.un by split <;> rfl]
    exact z
  | n + 1, i, _, _, _, v :: vs, .so (v := v0) (S := S1) (S' := S2) a b nn, hl, hle, hk => by
    obtain ⟨S', r, s⟩ := args_out B (i := i + 1) b (by simpa using hl) (by simpa using hle) fun j v' h1 h2 => by
      have := hk (j + 1) v' (by simpa using h1) (by rw [Nat.add_comm j 1, ← Nat.add_assoc]; exact h2)
      simpa using this
    unfold argsOut
    by_cases hi : i ∈ B
    · rw [if_pos hi]
      have e := hk 0 v rfl (by simpa using hi)
      simp only [List.getElem?_cons_zero, Option.some.injEq] at e
      subst e
      exact ⟨_, .cons a r fun x p q => nn x p (s x q), fun x h => h.imp id (s x)⟩
    · rw [if_neg hi]
      have z := RepAs.cons (RepA.own (P := P) (Rep.un (K := K) (R := R) (H := H) (v := v))) r noA_apart
      rw [no_two] at z
      exact ⟨S', z, fun x h => .inr (s x h)⟩
  | n + 1, i, _, _, _, [], .no _, hl, _, _ => by simp at hl
  | n + 1, i, _, _, _, [], .so _ _ _, hl, _, _ => by simp at hl
end
section
variable {P : Program} {w : World} {K : PySem.W.Frag} {mg : Str → Option Value} {base : Heap}
/-- THE RULE for a def, by its body -/
theorem fn_g {k : Nat} {f : Addr} {name qual : Str} {params : Arguments} {body : List Stmt} {scope : Scope} {dV kV doc pm cdv ct oc : Value} {an od : Option Addr} {osl : Array (Option Value)} {N ps : List Str} {B : List Nat} {g : Ss}
    (lk : K.lookup f = some ⟨oc, od, .func (PySem.W.fnOf name qual params body scope dV kV doc pm an cdv ct), osl⟩) (hcd : PySem.W.codeIn K cdv qual = true) (S : FnScope N ps scope)
    (hb : ∀ (A : Around) (outer : List PySem.Env) (s : Shared) (H : Hp) (E : XK), Room k (A.deeper (envOfC qual scope s.heap.objs.size f cdv)) → A.guards = some [] →
      SJs (cxOf (L2.CX P w) P w K mg base N qual scope f cdv A outer s H E) (fun c d _ H => E c d H) B body g) :
    FnG P w K mg base (k + 1) f (PySem.W.fnOf name qual params body scope dV kV doc pm an cdv ct) ps (fnF N.length ps.length B g) := by
  refine ⟨fun ts r e => ?_, fun A outer s H args us vs Q E room guards env0 binds rel sp => ?_⟩
  · unfold fnF at e
    split at e
    · rename_i h; exact h
    · cases e
  obtain ⟨ts, R, Pr, S0, r, rts, rh, ph, sf, hF, post⟩ := sp
  have lts : ts.length = ps.length := by
    unfold fnF at hF
    split at hF
    · rename_i h; exact h
    · cases hF
  have lvs : vs.length = ps.length := by rw [rts.length, lts]
  have lus : us.length = ps.length := by rw [← rel.length, lvs]
  have kin : K.In s.heap := env0.mod.kin.keeps fun b o e => (env0.bs b o e).1
  have nolim : s.heap.NoLimit := env0.mod.nolimit.keeps fun b o e => (env0.bs b o e).1
  have names : ∀ y ∈ ps.zip us, scope.names.lookup y.1 = some .local ∨ (scope.names.lookup y.1 = some .cell ∧ ((cellsFrom (s.heap.objs.size + 1) scope.names []).lookup y.1).isSome = true) := by
    intro y hy
    rcases S.par y.1 (List.of_mem_zip hy).1 with q | q
    · exact .inl q
    · exact .inr ⟨q, PySem.W.cellsFrom_some _ _ _ (.inl q)⟩
  refine codeAny_call_function room.depth (kin _ _ lk) rfl S.co S.gen rfl (PySem.W.codeRec_of kin hcd) (binds _ _ _ _ ?_)
  refine wpAny_newFunctionEnv_cells S.kind names fun env henv s1 call => ?_
  subst henv
  refine ⟨nolim.keeps call.toInCall.keep, codeAny_func ?_⟩
  have inv := inv_start (CX := L2.CX P w) (E := E) S room.hd env0 lvs rel call
  unfold fnF at hF
  rw [if_pos lts] at hF
  have lN : ps.length ≤ N.length := by
    have := congrArg List.length S.pre
    rw [List.length_take] at this
    omega
  have sr0 : SR K (ts ++ List.replicate (N.length - ps.length) .un) (start N vs) R Pr H S0 := by
    refine ⟨?_, rh, ph, sf⟩
    show RepSl K R Pr H _ (vs.map some ++ List.replicate (N.length - vs.length) none) S0
    rw [lvs]
    exact sl_start _ rts
  have fixed : ∀ {σ' : L2.St}, Fix B (start N vs) σ' → ∀ (j : Nat) v, vs[j]? = some v → 0 + j ∈ B → σ'[j]? = some (some v) := by
    intro σ' fx j v hj hB
    rw [Nat.zero_add] at hB
    rw [fx.2 j hB]
    show (vs.map some ++ _)[j]? = _
    rw [List.getElem?_append_left (by rw [List.length_map]; exact (List.getElem?_eq_some_iff.mp hj).1), List.getElem?_map, hj]
    rfl
  have long : ∀ {e : List T} {σ' : L2.St} {R' H' : Hp} {S' : ASet}, SR K e σ' R' Pr H' S' → Fix B (start N vs) σ' → ps.length ≤ e.length := by
    intro e σ' R' H' S' q fx
    have a := q.sl.length
    have b := fx.1
    have c : (start N vs).length = N.length := inv.len
    omega
  have back : ∀ {t : T} {e : List T}, r = .ret t (argsOut B 0 ps.length e) → ∀ (v : V) (u : Value) (σ' : L2.St) (R' H' : Hp) (S' Z : ASet) (s' : Shared), Inv (cxOf (L2.CX P w) P w K mg base N qual scope f cdv A outer s H E) [] σ' H' s' →
      RelV v u → Mv K B Pr (start N vs) R H S0 e σ' R' H' S' Z → Rep K R' H' t v Z → CE outer P w H s Q u s' := by
    intro t e hr v u σ' R' H' S' Z s' I' rv m rt
    subst hr
    obtain ⟨S'', ra, sa⟩ := args_out B m.sr.sl lvs (long m.sr m.fx) (fixed m.fx)
    refine ⟨v, H', I'.os, I'.bare, I'.base, I'.hok, rv, post v R' H' S'' Z ra rt (fun a h k => m.ap a h (sa a k)) m.sr.rh (fun a h => ?_) (m.fr.narrow fun a h => h.imp (sa a) id)⟩
    rcases h with h | h
    · exact m.sr.sf a (sa a h)
    · exact m.zf a h
  -- the body runs
  let D : Ends := { nx := fun σ' H' => ∀ s', Inv (cxOf (L2.CX P w) P w K mg base N qual scope f cdv A outer s H E) [] σ' H' s' → CE outer P w H s Q .none s', rt := fun v H' => ∀ u σ' s', Inv (cxOf (L2.CX P w) P w K mg base N qual scope f cdv A outer s H E) [] σ' H' s' → RelV v u → CE outer P w H s Q u s' }
  have body := hb A outer s H E (room.deeper _) guards
  cases hg : g (ts ++ List.replicate (N.length - ps.length) .un) with
  | none => rw [hg] at hF; cases hF
  | some o =>
    rw [hg] at hF
    have rd : rdS K (fun c d _ H => E c d H) B g D (start N vs) H := by
      refine ⟨_, R, Pr, S0, o, sr0, hg, ?_⟩
      cases o with
      | nx e =>
        cases hF
        intro σ' R' H' S' m s' I'
        exact back rfl .non .none σ' R' H' S' NoA s' I' rfl m (Rep.dat .non)
      | rt t e =>
        cases hF
        intro v σ' R' H' S' Z m rt u σ'' s' I' rv
        obtain ⟨S'', ra, sa⟩ := args_out (vs := vs) B m.sr.sl lvs (long m.sr m.fx) (fixed m.fx)
        refine ⟨v, H', I'.os, I'.bare, I'.base, I'.hok, rv, post v R' H' S'' Z ra rt (fun a h k => m.ap a h (sa a k)) m.sr.rh (fun a h => ?_) (m.fr.narrow fun a h => h.imp (sa a) id)⟩
        rcases h with h | h
        · exact m.sr.sf a (sa a h)
        · exact m.zf a h
      | bk e => cases hF
      | ct e => cases hF
      | x ex e =>
        cases hF
        intro c d σ' R' H' S' m ex'
        obtain ⟨S'', ra, sa⟩ := args_out (vs := vs) B m.sr.sl lvs (long m.sr m.fx) (fixed m.fx)
        exact post c d R' H' S'' ra m.sr.rh (fun a h => m.sr.sf a (sa a h)) (m.fr.narrow fun a h => .inl (sa a h)) ex'
    refine wpAny_mono (body.run [] s1 (start N vs) H D inv rd) (fun fl s' h => ?_) fun e s' h => h
    cases fl with
    | next =>
      obtain ⟨σ', H', I', q⟩ := h
      exact q s' I'
    | ret u =>
      obtain ⟨v, σ', H', I', rv, q⟩ := h
      exact q u σ' s' I' rv
    | brk => obtain ⟨_, _, _, q⟩ := h; exact q.elim
    | cont => obtain ⟨_, _, _, q⟩ := h; exact q.elim
end
end VS

set_option Elab.async false
set_option linter.all false
set_option maxRecDepth 100000
/-! Value semantics, 8: argument lists, calls of defs. -/
namespace VS
open PySem PySem.Spec PyProof.Rows L2

/-- an argument: a value, or a slot that the callee may change -/
inductive Ar where
  | v (p : PV)
  | m (i : Nat)
def Ar.held : Ar → Bool
  | .v p => p.held
  | .m _ => true
def ArR (K : PySem.W.Frag) (R P H : Hp) (S : ASet) (σ : L2.St) : Ar → V → ASet → Prop
  | .v p, v, Z => PvR K R P H S p v Z
  | .m i, v, Z => Z = NoA ∧ σ[i]? = some (some v)
inductive ArsR (K : PySem.W.Frag) (R P H : Hp) (S : ASet) (σ : L2.St) : List Ar → List V → ASet → Prop
  | nil : ArsR K R P H S σ [] [] NoA
  | cons {a : Ar} {v : V} {as : List Ar} {vs : List V} {Z Z' : ASet} : ArR K R P H S σ a v Z → ArsR K R P H S σ as vs Z' → Apart Z Z' → ArsR K R P H S σ (a :: as) (v :: vs) (TwoA Z Z')
inductive Arx where
  | ok (q : Bool) (l : List Ar) (e : List T)
  | x (ex : Ex) (e : List T)
abbrev As := List T → Option Arx
def ArP (K : PySem.W.Frag) (W : WX) (σ : L2.St) (P : Hp) (env : List T) (R H : Hp) (S : ASet) (Q : List V → Hp → Prop) : Arx → Prop
  | .ok q l env' => ∀ vs R' H' S' Z, Stp K σ P env R H S q env' R' H' S' Z → ArsR K R' P H' S' σ l vs Z → Q vs H'
  | .x ex env' => ∀ c d R' H' S', SR K env' σ R' P H' S' → Fr R H S R' H' S' → ExR K R' H' ex c d → W c d σ H'
def rdA (K : PySem.W.Frag) (W : WX) (f : As) : TA := fun σ H Q => ∃ env R P S r, SR K env σ R P H S ∧ f env = some r ∧ ArP K W σ P env R H S Q r
abbrev AJ (X : Cx) (W : WX) (es : List Expr) (f : As) : Prop := PA X es (rdA X.K W f)
def aNil : As := fun env => some (.ok true [] env)
def aCons (fa : Es) (g : As) : As := fun env => match fa env with
  | some (.ok q p env1) => match g env1 with
    | some (.ok q2 l env2) => if (p.held || q2) = true then some (.ok (q && q2) (.v p :: l) env2) else none
    | r => r
  | some (.x ex e) => some (.x ex e)
  | none => none
def aMut (i : Nat) (g : As) : As := fun env => match env[i]? with
  | some .un => none
  | some t => match g env with
    | some (.ok q l env2) => some (.ok q (.m i :: l) env2)
    | r => r
  | none => none
section
variable {K : PySem.W.Frag} {W : WX} {σ : L2.St} {P R H R1 H1 R2 H2 : Hp} {env env1 env2 : List T} {S S1 S2 Z Z1 Z2 : ASet} {q q1 q2 : Bool} {v : V} {fa : Es} {g : As} {Q : List V → Hp → Prop}
theorem ArsR.there : ∀ {l : List Ar} {vs : List V} {Z : ASet}, ArsR K R P H S σ l vs Z → ∀ a, Z a → ∃ o, H a = some o
  | _, _, _, .nil, _, z => z.elim
  | .v p :: _, _, _, .cons a b _, x, z => z.elim (fun z => PvR.there (show PvR K R P H S p _ _ from a) x z) fun z => ArsR.there b x z
  | .m i :: _, _, _, .cons a b _, x, z => z.elim (fun z => by obtain ⟨rfl, _⟩ := a; exact z.elim) fun z => ArsR.there b x z
theorem aNil_imp (h : rdA K W aNil σ H Q) : tNil σ H Q := by
  obtain ⟨env, R, P, S, r, sr, hr, post⟩ := h
  cases hr
  exact post [] R H S NoA sr.stp .nil
theorem aCons_imp (h : rdA K W (aCons fa g) σ H Q) : tCons (rdE K W fa) (rdA K W g) σ H Q := by
  obtain ⟨env, R, P, S, r, sr, hr, post⟩ := h
  unfold aCons at hr
  cases ha : fa env with
  | none => rw [ha] at hr; cases hr
  | some ra =>
    rw [ha] at hr
    refine ⟨env, R, P, S, ra, sr, ha, ?_⟩
    cases ra with
    | x ex e => cases hr; exact post
    | ok qa p env1 =>
      simp only at hr
      intro v1 R1 H1 S1 Z1 t1 p1
      cases hb : g env1 with
      | none => rw [hb] at hr; cases hr
      | some rb =>
        rw [hb] at hr
        refine ⟨env1, R1, P, S1, rb, t1.sr, hb, ?_⟩
        cases rb with
        | x ex e => cases hr; exact fun c d R' H' S' s' f' ex' => post c d R' H' S' s' (t1.frX f') ex'
        | ok qb l env2 =>
          simp only at hr
          split at hr
          · rename_i hc
            cases hr
            intro vs R2 H2 S2 Z2 t2 p2
            obtain ⟨t12, ap⟩ := t1.both p1.there t2
            exact post _ R2 H2 S2 _ t12 (.cons (PvR.over t1 p1 t2 hc) p2 ap)
          · cases hr
theorem aMut_imp {i : Nat} (h : rdA K W (aMut i g) σ H Q) : tCons (tVar i) (rdA K W g) σ H Q := by
  obtain ⟨env, R, P, S, r, sr, hr, post⟩ := h
  unfold aMut at hr
  split at hr
  · cases hr
  · rename_i t nu ht
    cases hb : g env with
    | none => rw [hb] at hr; cases hr
    | some rb =>
      rw [hb] at hr
      rcases sr.sl.get ht with rfl | ⟨v, S1, h1, h2, h3⟩
      · exact (nu rfl).elim
      · refine ⟨v, h1, env, R, P, S, rb, sr, hb, ?_⟩
        cases rb with
        | x ex e => cases hr; exact post
        | ok qb l env2 =>
          cases hr
          intro vs R2 H2 S2 Z2 t2 p2
          have z := ArsR.cons (K := K) (R := R2) (P := P) (H := H2) (S := S2) (σ := σ) (a := .m i) (v := v) ⟨rfl, h1⟩ p2 noA_apart
          rw [no_two] at z
          exact post _ R2 H2 S2 Z2 t2 z
  · cases hr
end
section
variable {X : Cx} {W : WX} {e : Expr} {es : List Expr} {fa : Es} {g : As}
theorem aj_nil : AJ X W [] aNil := PA.imp pa_nil fun _ _ _ h => aNil_imp h
theorem aj_cons (h : EJ X W e fa) (k : AJ X W es g) (hs : starEach (e :: es) X.env = (false, eval e X.env) :: starEach es X.env := by rfl) : AJ X W (e :: es) (aCons fa g) := PA.imp (pa_cons h k hs) fun _ _ _ h => aCons_imp h
theorem aj_mut (i : Nat) {x : Str} {pos : Pos} (k : AJ X W es g) (hN : X.N[i]? = some x := by rfl) (hv : Vis X.env.scope x := by first | exact Or.inl rfl | exact Or.inr (Or.inl rfl) | exact Or.inr (Or.inr rfl))
    (hd : (x == ("__debug__" : Str)) = false := by decide) (hcd : (x == ("__classdict__" : Str)) = false := by decide)
    (hs : starEach (.Name x pos :: es) X.env = (false, eval (.Name x pos) X.env) :: starEach es X.env := by rfl) : AJ X W (.Name x pos :: es) (aMut i g) := PA.imp (pa_cons (pe_var (i := i) hN hv hd hcd) k hs) fun _ _ _ h => aMut_imp h
end

/-! ### the call -/
def nf : HO → Bool
  | .frz _ _ => false
  | _ => true
/-- the heap with its locks taken off -/
def unl (H : Hp) : Hp := fun a => match H a with
  | some (.frz ob o) => if isD o = true then some o else some (.frz ob o)
  | x => x
open Classical in
noncomputable def outside (Z : ASet) (H : Hp) : Hp := fun a => if Z a then none else H a
theorem outside_in {Z : ASet} {H : Hp} {a : Addr} (h : Z a) : outside Z H a = none := by unfold outside; rw [if_pos h]
theorem outside_out {Z : ASet} {H : Hp} {a : Addr} (h : ¬ Z a) : outside Z H a = H a := by unfold outside; rw [if_neg h]
theorem unl_nf {H : Hp} {a : Addr} {o : HO} (h : H a = some o) (n : nf o = true) : unl H a = some o := by
  unfold unl
  rw [h]
  cases o <;> first | rfl | (cases n)
theorem unl_frz {H : Hp} {a : Addr} {o : HO} {ob : Obj} (h : H a = some (.frz ob o)) (n : isD o = true) : unl H a = some o := by
  unfold unl
  rw [h]
  show (if isD o = true then some o else _) = _
  rw [if_pos n]
theorem unl_r (H : Hp) : RSub (unl H) H := fun a o h => by
  unfold unl at h
  split at h
  · rename_i ob u e
    by_cases c : isD u = true
    · rw [if_pos c] at h; cases h; exact .inr ⟨c, ob, e⟩
    · rw [if_neg c] at h; cases h; exact .inl e
  · exact .inl h
theorem outside_r (Z : ASet) (H : Hp) : RSub (outside Z (unl H)) H := fun a o h => by
  by_cases c : Z a
  · rw [outside_in c] at h; cases h
  · rw [outside_out c] at h; exact unl_r H a o h
section
variable {K : PySem.W.Frag} {R G G' : Hp}
mutual
theorem Rep.move : ∀ {t : T} {v : V} {S : ASet}, Rep K R G t v S → (∀ a o, S a → G a = some o → nf o = true → G' a = some o) → Rep K R G' t v S
  | _, _, _, .un, _ => .un
  | _, _, _, .scr h, _ => .scr h
  | _, _, _, .dat h, _ => .dat h
  | _, _, _, .fn h, _ => .fn h
  | _, _, _, .exc h e, _ => .exc h e
  | _, _, _, .lst h r n, k => .lst (k _ _ (.inl rfl) h rfl) (RepAll.move r fun a o x => k a o (.inr x)) n
  | _, _, _, .tup h r, k => .tup h (RepAll.move r k)
  | _, _, _, .dK h r n, k => .dK (k _ _ (.inl rfl) h rfl) (RepK.move r fun a o x => k a o (.inr x)) n
  | _, _, _, .dT h r n, k => .dT (k _ _ (.inl rfl) h rfl) (RepT.move r fun a o x => k a o (.inr x)) n
  | _, _, _, .ins z h h2 r n n2 n3, k => .ins z (k _ _ (.inl rfl) h rfl) (k _ _ (.inr (.inl rfl)) h2 rfl) (RepF.move r fun a o x => k a o (.inr (.inr x))) n n2 n3
theorem RepAll.move : ∀ {t : List T} {v : List V} {S : ASet}, RepAll K R G t v S → (∀ a o, S a → G a = some o → nf o = true → G' a = some o) → RepAll K R G' t v S
  | _, _, _, .nil, _ => .nil
  | _, _, _, .cons a b n, k => .cons (Rep.move a fun x o h => k x o (.inl h)) (RepAll.move b fun x o h => k x o (.inr h)) n
theorem RepK.move : ∀ {t : List (D × T)} {v : List (Key × V)} {S : ASet}, RepK K R G t v S → (∀ a o, S a → G a = some o → nf o = true → G' a = some o) → RepK K R G' t v S
  | _, _, _, .nil, _ => .nil
  | _, _, _, .cons a b n, k => .cons (Rep.move a fun x o h => k x o (.inl h)) (RepK.move b fun x o h => k x o (.inr h)) n
theorem RepT.move : ∀ {t : List (D × T)} {v : List (List Key × V)} {S : ASet}, RepT K R G t v S → (∀ a o, S a → G a = some o → nf o = true → G' a = some o) → RepT K R G' t v S
  | _, _, _, .nil, _ => .nil
  | _, _, _, .cons a b n, k => .cons (Rep.move a fun x o h => k x o (.inl h)) (RepT.move b fun x o h => k x o (.inr h)) n
theorem RepF.move : ∀ {t : List (Str × T)} {v : List (Str × V)} {S : ASet}, RepF K R G t v S → (∀ a o, S a → G a = some o → nf o = true → G' a = some o) → RepF K R G' t v S
  | _, _, _, .nil, _ => .nil
  | _, _, _, .cons a b n, k => .cons (Rep.move a fun x o h => k x o (.inl h)) (RepF.move b fun x o h => k x o (.inr h)) n
end
end
def ms : List Ar → List Nat
  | [] => []
  | .m i :: l => i :: ms l
  | .v _ :: l => ms l
def noVw : List Ar → Bool
  | [] => true
  | .v (.vw _) :: _ => false
  | _ :: l => noVw l
def arT (e : List T) : Ar → Option T
  | .v (.fr t) => some t
  | .v (.vw t) => some (.vw t)
  | .v (.pv t) => some (.vw t)
  | .m i => match e[i]? with
    | some .un => none
    | some (.vw _) => none
    | some t => some t
    | none => none
def arTs (e : List T) : List Ar → Option (List T)
  | [] => some []
  | a :: l => match arT e a, arTs e l with
    | some t, some ts => some (t :: ts)
    | _, _ => none
def unM : List T → List Ar → List T
  | e, [] => e
  | e, .m i :: l => (unM e l).set i .un
  | e, .v _ :: l => unM e l
def putM : List T → List Ar → List T → List T
  | e, .m i :: l, t :: ts => (putM e l ts).set i t
  | e, .v _ :: l, _ :: ts => putM e l ts
  | e, _, _ => e
def okM : List Ar → List T → Bool
  | .m _ :: _, .vw _ :: _ => false
  | _ :: l, _ :: ts => okM l ts
  | _, _ => true
def eCall (F : Fs) (g : As) : Es := fun env => match g env with
  | some (.ok q l e) => if (((ms l).isEmpty || noVw l) && decide (ms l).Nodup) = true then match arTs e l with
    | some ts => match F ts with
      | some (.ret t ts') => if okM l ts' = true then some (.ok (q && (ms l).isEmpty) (.fr t) (putM (unM e l) l ts')) else none
      | some (.exc ex ts') => if okM l ts' = true then some (.x ex (putM (unM e l) l ts')) else none
      | none => none
    | none => none
    else none
  | some (.x ex e) => some (.x ex e)
  | none => none
section
variable {K : PySem.W.Frag} {σ : L2.St} {P R H R' H' : Hp} {S Z Z' : ASet}
theorem unM_length : ∀ (e : List T) (l : List Ar), (unM e l).length = e.length
  | _, [] => rfl
  | e, .m i :: l => by unfold unM; rw [List.length_set, unM_length e l]
  | e, .v _ :: l => by unfold unM; exact unM_length e l
theorem unM_get : ∀ (e : List T) (l : List Ar) (i : Nat), i ∉ ms l → (unM e l)[i]? = e[i]?
  | _, [], _, _ => rfl
  | e, .m j :: l, i, h => by
    unfold unM ms at *
    rw [List.mem_cons, not_or] at h
    rw [List.getElem?_set_ne (Ne.symm h.1)]
    exact unM_get e l i h.2
  | e, .v _ :: l, i, h => by unfold unM ms at *; exact unM_get e l i h
/-- the slots that go to the callee are taken out -/
theorem detach (S : ASet) : ∀ {l : List Ar} {vs : List V} {ts e : List T} {Z : ASet}, RepSl K R P H e σ S → ArsR K R P H S σ l vs Z → Apart Z S → (ms l).Nodup → arTs e l = some ts →
    ∃ S0 Zm, RepSl K R P H (unM e l) σ S0 ∧ (∀ a, S a ↔ S0 a ∨ Zm a) ∧ Apart Zm S0 ∧ ((ms l).isEmpty = true → ∀ a, ¬ Zm a) ∧
      ∀ Pc : Hp, (∀ t v S1, (.v (.vw t)) ∈ l → Rep K R H t v S1 → (∀ a, S1 a → S a) → Rep K R Pc t v S1) → (∀ t v S1, Rep K R P t v S1 → Rep K R Pc t v S1) → RepAs K R Pc H ts vs (TwoA Z Zm)
  | [], _, ts, e, _, sl, .nil, _, _, ht => by
    cases ht
    exact ⟨S, NoA, sl, fun a => by simp [NoA], noA_apart, fun _ _ h => h, fun _ _ _ => by rw [two_no]; exact .nil⟩
  | .v p :: l, _, ts, e, _, sl, .cons (v := v) (Z := Z1) (Z' := Z2) a b n, ap, nd, ht => by
    unfold arTs at ht
    cases h1 : arT e (.v p) with
    | none => rw [h1] at ht; cases ht
    | some t =>
      cases h2 : arTs e l with
      | none => rw [h1, h2] at ht; cases ht
      | some ts' =>
        rw [h1, h2] at ht; cases ht
        obtain ⟨S0, Zm, s0, iff, apm, em, k⟩ := detach S sl b (fun a x y => ap a (.inr x) y) nd h2
        refine ⟨S0, Zm, s0, iff, apm, em, fun Pc kv kp => ?_⟩
        have r2 := k Pc (fun t v S1 hm => kv t v S1 (List.mem_cons_of_mem _ hm)) kp
        have as : ∀ {x : T} {Z1' : ASet}, RepA K R Pc H x v Z1' → (∀ a, Z1' a → Z1 a) → RepAs K R Pc H (x :: ts') _ (TwoA Z1' (TwoA Z2 Zm)) := fun r sub => .cons r r2 fun a x y => by
          rcases y with y | y
          · exact n a (sub a x) y
          · exact ap a (.inl (sub a x)) ((iff a).mpr (.inr y))
        have asc : ∀ (A B C : ASet), TwoA A (TwoA B C) = TwoA (TwoA A B) C := fun A B C => funext fun a => propext ⟨fun h => h.elim (fun h => .inl (.inl h)) fun h => h.elim (fun h => .inl (.inr h)) .inr, fun h => h.elim (fun h => h.elim .inl fun h => .inr (.inl h)) fun h => .inr (.inr h)⟩
        cases p with
        | fr u =>
          cases h1
          rw [← asc]
          exact as (.own a) fun _ h => h
        | vw u =>
          cases h1
          obtain ⟨rfl, S1, r, sub⟩ := a
          rw [← asc]
          exact as (.vw (kv u v S1 List.mem_cons_self r sub)) fun _ h => h
        | pv u =>
          cases h1
          obtain ⟨rfl, S1, r⟩ := a
          rw [← asc]
          exact as (.vw (kp u v S1 r)) fun _ h => h
  | .m i :: l, _, ts, e, _, sl, .cons (v := v) (Z := Z1) (Z' := Z2) a b n, ap, nd, ht => by
    obtain ⟨rfl, hσ⟩ := a
    unfold arTs at ht
    cases h1 : arT e (.m i) with
    | none => rw [h1] at ht; cases ht
    | some t =>
      cases h2 : arTs e l with
      | none => rw [h1, h2] at ht; cases ht
      | some ts' =>
        rw [h1, h2] at ht; cases ht
        obtain ⟨ni, nd'⟩ := List.nodup_cons.mp (show (i :: ms l).Nodup from nd)
        obtain ⟨S0, Zm, s0, iff, apm, _, k⟩ := detach S sl b (fun a x y => ap a (.inr x) y) nd' h2
        have hi : (unM e l)[i]? = some t ∧ t ≠ .un ∧ ∀ u, t ≠ .vw u := by
          rw [unM_get e l i ni]
          simp only [arT] at h1
          split at h1
          · cases h1
          · cases h1
          · rename_i t' n1 n2 he
            cases h1
            exact ⟨he, fun q => n1 q, fun u q => n2 u q⟩
          · cases h1
        rcases s0.take hi.1 with rfl | ⟨v', Zi, S0', e1, e2, e3, e4, e5⟩
        · exact (hi.2.1 rfl).elim
        · rw [hσ] at e1
          cases e1
          refine ⟨S0', TwoA Zi Zm, e3, fun a => ?_, fun a x y => ?_, fun h => absurd h (by simp [ms]), fun Pc kv kp => ?_⟩
          · constructor
            · intro h
              rcases (iff a).mp h with h | h
              · rcases (e5 a).mp h with h | h
                · exact .inl h
                · exact .inr (.inl h)
              · exact .inr (.inr h)
            · rintro (h | h | h)
              · exact (iff a).mpr (.inl ((e5 a).mpr (.inl h)))
              · exact (iff a).mpr (.inl ((e5 a).mpr (.inr h)))
              · exact (iff a).mpr (.inr h)
          · rcases x with x | x
            · exact e4 a x y
            · exact apm a x ((e5 a).mpr (.inl y))
          · have r2 := k Pc (fun t v S1 hm => kv t v S1 (List.mem_cons_of_mem _ hm)) kp
            cases e2 with
            | vw r => exact (hi.2.2 _ rfl).elim
            | own r =>
              have z := RepAs.cons (RepA.own (P := Pc) r) r2 fun a x y => by
                rcases y with y | y
                · exact ap a (.inr y) ((iff a).mpr (.inl ((e5 a).mpr (.inr x))))
                · exact apm a y ((e5 a).mpr (.inr x))
              have asc : TwoA Zi (TwoA Z2 Zm) = TwoA (TwoA NoA Z2) (TwoA Zi Zm) := funext fun a => propext ⟨fun h => h.elim (fun h => .inr (.inl h)) fun h => h.elim (fun h => .inl (.inr h)) fun h => .inr (.inr h), fun h => h.elim (fun h => h.elim False.elim fun h => .inr (.inl h)) fun h => h.elim .inl fun h => .inr (.inr h)⟩
              rw [asc] at z
              exact z
theorem putM_length : ∀ (e : List T) (l : List Ar) (ts : List T), (putM e l ts).length = e.length
  | e, [], _ => by unfold putM; rfl
  | e, .m i :: l, [] => by unfold putM; rfl
  | e, .v _ :: l, [] => by unfold putM; rfl
  | e, .m i :: l, t :: ts => by unfold putM; rw [List.length_set, putM_length e l ts]
  | e, .v _ :: l, t :: ts => by unfold putM; exact putM_length e l ts
/-- .. and come back -/
theorem attach {Pc : Hp} (S0 : ASet) : ∀ {l : List Ar} {vs : List V} {ts e : List T} {S2 : ASet}, RepSl K R' P H' e σ S0 → (∀ (k i : Nat) v, l[k]? = some (.m i) → vs[k]? = some v → σ[i]? = some (some v) ∧ i < e.length) → RepAs K R' Pc H' ts vs S2 → vs.length = l.length → Apart S2 S0 → okM l ts = true →
    ∃ S3, RepSl K R' P H' (putM e l ts) σ S3 ∧ (∀ a, S3 a → S0 a ∨ S2 a) ∧ ((ms l).isEmpty = true → S3 = S0)
  | [], _, ts, e, _, sl, _, _, _, _, _ => ⟨S0, by unfold putM; exact sl, fun _ h => .inl h, fun _ => rfl⟩
  | .v p :: l, _, _, e, _, sl, hk, .nil, hl, _, _ => by simp at hl
  | .m i :: l, _, _, e, _, sl, hk, .nil, hl, _, _ => by simp at hl
  | .v p :: l, _, _, e, _, sl, hk, .cons (S' := S2') a b n, hl, ap, ok => by
    obtain ⟨S3, r, s, z⟩ := attach S0 sl (fun k i v h1 h2 => hk (k + 1) i v (by simpa using h1) (by simpa using h2)) b (by simpa using hl) (fun a x y => ap a (.inr x) y) (by simpa [okM] using ok)
    exact ⟨S3, by unfold putM; exact r, fun a h => (s a h).imp_right .inr, fun h => z (by simpa [ms] using h)⟩
  | .m i :: l, v :: vs, t :: ts, e, _, sl, hk, .cons (S := S1) (S' := S2') a b n, hl, ap, ok => by
    have ok' : okM l ts = true ∧ ∀ u, t ≠ .vw u := by
      cases t with
      | vw u => simp [okM] at ok
      | _ => exact ⟨by simpa [okM] using ok, fun u h => by cases h⟩
    obtain ⟨S3, r, s, _⟩ := attach S0 sl (fun k i v h1 h2 => hk (k + 1) i v (by simpa using h1) (by simpa using h2)) b (by simpa using hl) (fun a x y => ap a (.inr x) y) ok'.1
    obtain ⟨hσ, hi⟩ := hk 0 i v rfl rfl
    cases a with
    | vw _ => exact (ok'.2 _ rfl).elim
    | own a =>
      obtain ⟨S4, r4, s4⟩ := r.put (i := i) (v := v) (by rw [putM_length]; exact hi) (.own a) fun x h k => by
        rcases s x k with q | q
        · exact ap x (.inl h) q
        · exact n x h q
      have es : σ.set i (some v) = σ := by
        obtain ⟨h1, h2⟩ := List.getElem?_eq_some_iff.mp hσ
        rw [← h2]; exact List.set_getElem_self h1
      rw [es] at r4
      refine ⟨S4, by unfold putM; exact r4, fun x h => ?_, fun h => by simp [ms] at h⟩
      rcases s4 x h with q | q
      · exact (s x q).imp_right .inr
      · exact .inr (.inl q)

/-- a call of a def: its reading, where it may raise -/
def tCallG (K : PySem.W.Frag) (W : WX) (F : Fs) (t : TA) : TE := fun σ H Q => t σ H fun vs H1 => callSp K F vs H1 Q fun c d H' => W c d σ H'
theorem Stp.sub_of (a : Fr R H Z R' H' Z') {Y : ASet} (h : ∀ x, Z x → Y x) : Fr R H Y R' H' Z' := a.widen h
theorem ms_mem : ∀ {l : List Ar} {k i : Nat}, l[k]? = some (.m i) → i ∈ ms l
  | [], k, i, h => by simp at h
  | .v _ :: l, 0, i, h => by simp at h
  | .m j :: l, 0, i, h => by simp at h; subst h; exact List.mem_cons_self
  | .v _ :: l, k + 1, i, h => by unfold ms; exact ms_mem (by simpa using h)
  | .m j :: l, k + 1, i, h => by unfold ms; exact List.mem_cons_of_mem _ (ms_mem (by simpa using h))
theorem noVw_mem : ∀ {l : List Ar} {t : T}, noVw l = true → Ar.v (.vw t) ∈ l → False
  | .v (.fr _) :: l, t, h, m => noVw_mem (l := l) (by simpa [noVw] using h) (by simpa using m)
  | .v (.pv _) :: l, t, h, m => noVw_mem (l := l) (by simpa [noVw] using h) (by simpa using m)
  | .v (.vw _) :: l, t, h, m => by simp [noVw] at h
  | .m _ :: l, t, h, m => noVw_mem (l := l) (by simpa [noVw] using h) (by simpa using m)
theorem ArsR.length {l : List Ar} {vs : List V} (h : ArsR K R P H S σ l vs Z) : vs.length = l.length := by
  induction h with
  | nil => rfl
  | cons _ _ _ ih => exact congrArg (· + 1) ih
theorem ArsR.slot : ∀ {l : List Ar} {vs : List V} {Z : ASet} {k i : Nat} {v : V}, ArsR K R P H S σ l vs Z → l[k]? = some (.m i) → vs[k]? = some v → σ[i]? = some (some v)
  | _, _, _, 0, _, _, .cons a _ _, h1, h2 => by
    simp at h1 h2
    subst h1; subst h2
    exact a.2
  | _, _, _, k + 1, _, _, .cons _ b _, h1, h2 => ArsR.slot (k := k) b (by simpa using h1) (by simpa using h2)
theorem arTs_lt : ∀ {e : List T} {l : List Ar} {ts : List T} {k i : Nat}, arTs e l = some ts → l[k]? = some (.m i) → i < e.length
  | e, [], _, k, i, _, h => by simp at h
  | e, a :: l, ts, k, i, h, hk => by
    unfold arTs at h
    cases h1 : arT e a with
    | none => rw [h1] at h; cases h
    | some t =>
      cases h2 : arTs e l with
      | none => rw [h1, h2] at h; cases h
      | some ts' =>
        cases k with
        | succ k => exact arTs_lt (k := k) h2 (by simpa using hk)
        | zero =>
          simp at hk
          subst hk
          simp only [arT] at h1
          split at h1
          · cases h1
          · cases h1
          · rename_i he
            exact (List.getElem?_eq_some_iff.mp he).1
          · cases h1
theorem unM_none : ∀ {e : List T} {l : List Ar}, (ms l).isEmpty = true → unM e l = e
  | _, [], _ => rfl
  | e, .v _ :: l, h => by unfold unM; exact unM_none (l := l) (by simpa [ms] using h)
  | e, .m i :: l, h => by simp [ms] at h
theorem putM_none : ∀ {e : List T} {l : List Ar} {ts : List T}, (ms l).isEmpty = true → putM e l ts = e
  | _, [], _, _ => by unfold putM; rfl
  | e, .v _ :: l, [], h => by unfold putM; rfl
  | e, .v _ :: l, _ :: ts, h => by unfold putM; exact putM_none (l := l) (by simpa [ms] using h)
  | e, .m i :: l, _, h => by simp [ms] at h
theorem eCall_imp {W : WX} {F : Fs} {g : As} {Q : VK} (h : rdE K W (eCall F g) σ H Q) : tCallG K W F (rdA K W g) σ H Q := by
  obtain ⟨env, R, P, S, r, sr, hr, post⟩ := h
  unfold eCall at hr
  cases hg : g env with
  | none => rw [hg] at hr; cases hr
  | some rg =>
    rw [hg] at hr
    refine ⟨env, R, P, S, rg, sr, hg, ?_⟩
    cases rg with
    | x ex e => cases hr; exact post
    | ok q l e =>
      simp only at hr
      split at hr
      · rename_i hc
        obtain ⟨hc1, hc2⟩ := Bool.and_eq_true_iff.mp hc
        have nd := of_decide_eq_true hc2
        cases hts : arTs e l with
        | none => rw [hts] at hr; cases hr
        | some ts =>
          rw [hts] at hr
          simp only at hr
          intro vs R1 H1 S1 Z1 t1 as
          -- what the callee may look at
          obtain ⟨S0, Zm, s0, iff, apm, em, reps⟩ := detach S1 t1.sr.sl as t1.ap nd hts
          obtain ⟨Pc, hPc⟩ : ∃ Pc, Pc = outside (TwoA Z1 Zm) (unl H1) := ⟨_, rfl⟩
          have inS : ∀ a, TwoA Z1 Zm a → TwoA S1 Z1 a := fun a h => h.elim .inr fun h => .inl ((iff a).mpr (.inr h))
          have zP : ∀ a, TwoA Z1 Zm a → P a = none := fun a h => h.elim (fun h => (t1.zf a h).2) fun h => (t1.sr.sf a ((iff a).mpr (.inr h))).2
          have zR : ∀ a, TwoA Z1 Zm a → R1 a = none := fun a h => h.elim (fun h => (t1.zf a h).1) fun h => (t1.sr.sf a ((iff a).mpr (.inr h))).1
          have pP : ∀ a o, P a = some o → nf o = true → Pc a = some o := fun a o h n => by
            have nz : ¬ TwoA Z1 Zm a := fun z => by rw [zP a z] at h; cases h
            rw [hPc, outside_out nz]
            rcases t1.sr.ph a o h with e | ⟨d, ob, e⟩
            · exact unl_nf e n
            · exact unl_frz e d
          have args : RepAs K R1 Pc H1 ts vs (TwoA Z1 Zm) := by
            refine reps Pc (fun t v S' hm r sub => r.move fun a o ha he hn => ?_) fun t v S' r => r.move fun a o ha he hn => pP a o he hn
            have nm : (ms l).isEmpty = true := by
              rcases Bool.or_eq_true_iff.mp hc1 with z | z
              · exact z
              · exact (noVw_mem z hm).elim
            have nz : ¬ TwoA Z1 Zm a := fun z => z.elim (fun z => t1.ap a z (sub a ha)) (em nm a)
            rw [hPc, outside_out nz]
            exact unl_nf he hn
          have th0 := s0.there
          -- behind the call: what it left alone, and the slots again
          have behind : ∀ {R' H' : Hp} {S2 Z2 : ASet} {ts' : List T}, RepAs K R' Pc H' ts' vs S2 → RSub R' H' → (∀ a, S2 a ∨ Z2 a → R' a = none) → Fr R1 H1 (TwoA Z1 Zm) R' H' (TwoA S2 Z2) → Apart Z2 S2 → okM l ts' = true →
              ∃ S3, Stp K σ P env R H S (q && (ms l).isEmpty) (putM (unM e l) l ts') R' H' S3 Z2 := by
            intro R' H' S2 Z2 ts' ra rh' zf' fr' ap' ok
            have out : ∀ a, S2 a ∨ Z2 a → TwoA Z1 Zm a ∨ H1 a = none := fun a h => fr'.sub a h
            have s0n : ∀ a, S0 a → ¬ TwoA Z1 Zm a := fun a h z => z.elim (fun z => t1.ap a z ((iff a).mpr (.inl h))) fun z => apm a z h
            have far : ∀ a, S2 a ∨ Z2 a → S0 a → False := fun a h k => by
              rcases out a h with z | z
              · exact s0n a k z
              · obtain ⟨o, e⟩ := th0 a k
                rw [z] at e; cases e
            have s0' : RepSl K R' P H' (unM e l) σ S0 := s0.mono fr'.rr fun a h => by
              obtain ⟨o, e⟩ := th0 a h
              rw [e]; exact fr'.keep a o e (s0n a h)
            obtain ⟨S3, s3, sub3, eq3⟩ := attach S0 s0' (fun k i v h1 h2 => ⟨as.slot h1 h2, by rw [unM_length]; exact arTs_lt hts h1⟩) ra as.length (fun a h k => far a (.inl h) k) ok
            have pn : ∀ a, S2 a ∨ Z2 a → P a = none := fun a h => by
              rcases out a h with z | z
              · exact zP a z
              · exact t1.sr.ph.no z
            have r0 : ∀ a, S0 a → R' a = none := fun a h => by
              rcases none_or (H := R') a with z | ⟨u, z⟩
              · exact z
              · rcases fr'.nw a (by rw [z]; exact fun y => nomatch y) with y | y | y
                · exact absurd (t1.sr.sf a ((iff a).mpr (.inl h))).1 y
                · exact (s0n a h y).elim
                · obtain ⟨o, e⟩ := th0 a h
                  rw [y] at e; cases e
            have ph' : RSub P H' := fun a o h => by
              have nz : ¬ TwoA Z1 Zm a := fun z => by rw [zP a z] at h; cases h
              rcases t1.sr.ph a o h with e | ⟨d, ob, e⟩
              · exact .inl (fr'.keep a _ e nz)
              · exact .inr ⟨d, ob, fr'.keep a _ e nz⟩
            have frw : Fr R1 H1 (TwoA S1 Z1) R' H' (TwoA S2 Z2) := fr'.widen inS
            have f := t1.fr.trans frw
            refine ⟨S3, ⟨s3, rh', ph', fun a h => ?_⟩, fun a h k => ?_, fun a h => ⟨zf' a (.inr h), pn a (.inr h)⟩, ⟨f.keep, f.rr, f.nw, fun a h => ?_⟩, fun hq => ?_⟩
            · rcases sub3 a h with z | z
              · exact ⟨r0 a z, (t1.sr.sf a ((iff a).mpr (.inl z))).2⟩
              · exact ⟨zf' a (.inl z), pn a (.inl z)⟩
            · rcases sub3 a k with z | z
              · exact far a (.inr h) z
              · exact ap' a h z
            · rcases h with h | h
              · rcases sub3 a h with z | z
                · exact t1.fr.sub a (.inl ((iff a).mpr (.inl z)))
                · exact f.sub a (.inl z)
              · exact f.sub a (.inr h)
            · obtain ⟨hq1, hq2⟩ := Bool.and_eq_true_iff.mp hq
              obtain ⟨a1, a2, a3, a4⟩ := t1.qt hq1
              have nz : ∀ a o, H a = some o → ¬ TwoA Z1 Zm a := fun a o h z => z.elim (fun z => by rw [a4 a z] at h; cases h) (em hq2 a)
              have same : putM (unM e l) l ts' = env := by rw [unM_none hq2, putM_none hq2]; exact a1
              refine ⟨same, fun a o h => fr'.keep a o (a2 a o h) (nz a o h), ?_, fun a h => ?_⟩
              · rw [eq3 hq2, ← a3]
                exact funext fun a => propext ⟨fun h => (iff a).mpr (.inl h), fun h => ((iff a).mp h).elim id fun z => (em hq2 a z).elim⟩
              · rcases out a (.inr h) with z | z
                · rcases z with z | z
                  · exact a4 a z
                  · exact (em hq2 a z).elim
                · rcases none_or (H := H) a with y | ⟨o, y⟩
                  · exact y
                  · rw [a2 a o y] at z; cases z
          cases hF : F ts with
          | none => rw [hF] at hr; cases hr
          | some fo =>
            rw [hF] at hr
            refine ⟨ts, R1, Pc, TwoA Z1 Zm, fo, args, t1.sr.rh, by rw [hPc]; exact outside_r _ _, fun a h => ⟨zR a h, by rw [hPc]; exact outside_in h⟩, hF, ?_⟩
            cases fo with
            | ret t ts' =>
              simp only at hr
              split at hr
              · rename_i ok
                cases hr
                intro v R' H' S2 Z2 ra rt ap rh' zf' fr'
                obtain ⟨S3, st⟩ := behind ra rh' (fun a h => (zf' a h).1) fr' ap ok
                exact post v R' H' S3 Z2 st rt
              · cases hr
            | exc ex ts' =>
              simp only at hr
              split at hr
              · rename_i ok
                cases hr
                intro c d R' H' S2 ra rh' zf' fr' ex'
                have fr2 : Fr R1 H1 (TwoA Z1 Zm) R' H' (TwoA S2 NoA) := fr'.narrow fun a h => h.elim id False.elim
                obtain ⟨S3, st⟩ := behind ra rh' (fun a h => h.elim (fun h => (zf' a h).1) False.elim) fr2 noA_apart ok
                exact post c d R' H' S3 st.sr (st.fr.narrow fun a h => .inl h) ex'
              · cases hr
      · cases hr
end
section
variable {X : Cx} {W : WX} {k : Nat} {f : Addr} {fd : FuncData} {ps : List Str} {F : Fs} {g : As} {e : Expr} {es : List Expr} {x : Str} {p pos : Pos}
/-- a callee of this kind runs -/
theorem run_g {pins : List (Addr × Obj)} {σ : L2.St} {H : Hp} {s : Shared} {Q : VK} {us : List Value} {vs : List V} (G : FnG X.prog X.w X.K X.mg X.base k f fd ps F) (hr : Room k X.A) (hg : X.A.guards = some []) (hb : Binds X.K fd ps []) (tk : Takes X W)
    (I : Inv X pins σ H s) (r : Vals vs us) (h : callSp X.K F vs H Q fun c d H' => W c d σ H') : wpAny (model X.prog X.w) X.A (call (.ref f) us) (EP X pins σ Q) X.xe s := by
  have lus : us.length = ps.length := by
    obtain ⟨ts, R, P, S, r0, a1, _, _, _, a5, _⟩ := id h
    rw [← r.length, a1.length]
    exact G.len ts r0 a5
  have bind := hb s us I.kIn (by rw [List.append_nil]; exact lus)
  rw [List.append_nil] at bind
  refine wpAny_call (codeAny_mono (G.run X.A X.stack s H ⟨us, []⟩ us vs Q _ hr hg I.env0 bind r h) fun res s' q => ?_)
  cases res with
  | error e => exact tk e s' (XE.of_call I (fun _ _ _ z => z) q)
  | ok fl =>
    cases fl with
    | ret u => exact I.after q
    | next => exact q.elim
    | brk => exact q.elim
    | cont => exact q.elim
theorem ej_call (G : FnG X.prog X.w X.K X.mg X.base k f fd ps F) (hr : Room k X.A) (hg : X.A.guards = some []) (gl : Gl X x) (hm : X.mg x = some (.ref f)) (hk : PySem.W.keepIn X.K (.ref f) = true) (hb : Binds X.K fd ps []) (tk : Takes X W) (ha : AJ X W (e :: es) g)
    (hdb : (x == ("__debug__" : Str)) = false := by decide) (he : starEach (e :: es) X.env = (false, eval e X.env) :: starEach es X.env := by rfl) (hpl : (backTo pos (starEach es X.env)).any (·.1) = false := by rfl) :
    EJ X W (.Call (.Name x p) (e :: es) [] pos) (eCall F g) := by
  refine PE.imp (t := tCallG X.K W F (rdA X.K W g)) ⟨fun pins s σ H Q I h => ?_⟩ fun _ _ _ h => eCall_imp h
  refine wpAny_Call_Name_kw (ld_glob I gl hm ?_ hdb)
  refine PySem.W.callWith_K (h₀ := X.base) I.ok.mod.kin hk (thn (ha.run pos pins s σ H _ I h) fun us s1 ⟨vs, H1, I1, r, q⟩ => ?_) he hpl
  exact ⟨I1.kIn, run_g G hr hg hb tk I1 r q⟩
theorem ej_call0 (G : FnG X.prog X.w X.K X.mg X.base k f fd ps F) (hr : Room k X.A) (hg : X.A.guards = some []) (gl : Gl X x) (hm : X.mg x = some (.ref f)) (hk : PySem.W.keepIn X.K (.ref f) = true) (hb : Binds X.K fd ps []) (tk : Takes X W)
    (hdb : (x == ("__debug__" : Str)) = false := by decide) : EJ X W (.Call (.Name x p) [] [] pos) (eCall F aNil) := by
  refine PE.imp (t := tCallG X.K W F tNil) ⟨fun pins s σ H Q I h => ?_⟩ fun σ H Q h => aNil_imp (eCall_imp h)
  refine wpAny_Call_Name_kw (ld_glob I gl hm ?_ hdb)
  exact PySem.W.callWith_K0 I.kIn hk (run_g (us := []) G hr hg hb tk I .nil h)
end
end VS

set_option Elab.async false
set_option linter.all false
set_option maxRecDepth 100000
/-! Value semantics, 9: targets, what is walked, for. -/
namespace VS
open PySem PySem.Spec PyProof.Rows L2

/-! ### targets -/
abbrev Gs := T → List T → Option (List T)
def rdG (K : PySem.W.Frag) (B : List Nat) (gt : Gs) : TG := fun v σ H Q => ∃ t env R P S Z env', SR K env σ R P H S ∧ Rep K R H t v Z ∧ Apart Z S ∧ (∀ a, Z a → R a = none ∧ P a = none) ∧ gt t env = some env' ∧
  ∀ σ' S', SR K env' σ' R P H S' → (∀ a, S' a → S a ∨ Z a) → Fix B σ σ' → Q σ' H
abbrev GJ (X : Cx) (B : List Nat) (tg : Expr) (gt : Gs) : Prop := PG X tg (rdG X.K B gt)
theorem PG.imp {X : Cx} {e : Expr} {t t' : TG} (h : PG X e t) (k : ∀ v σ H Q, t' v σ H Q → t v σ H Q) : PG X e t' := ⟨fun pins s σ H v u Q I r q => h.run pins s σ H v u Q I r (k v σ H Q q)⟩
def gNm (i : Nat) : Gs := fun t env => if i < env.length then some (env.set i t) else none
theorem gNm_imp {K : PySem.W.Frag} {B : List Nat} {i : Nat} (hb : i ∉ B) {v : V} {σ : L2.St} {H : Hp} {Q : L2.St → Hp → Prop} (h : rdG K B (gNm i) v σ H Q) : gName i v σ H Q := by
  obtain ⟨t, env, R, P, S, Z, env', sr, r, ap, zf, e, k⟩ := h
  unfold gNm at e
  split at e
  · rename_i hi
    cases e
    obtain ⟨S', x, y⟩ := sr.sl.put hi (.own r) ap
    refine k _ S' ⟨x, sr.rh, sr.ph, fun a h => (y a h).elim (sr.sf a) (zf a)⟩ y ⟨List.length_set, fun j hj => ?_⟩
    have ne : i ≠ j := fun e => hb (e ▸ hj)
    exact List.getElem?_set_ne ne
  · cases e
/-- several targets, a tuple's items -/
def gEach : List Gs → List T → List T → Option (List T)
  | [], [], env => some env
  | g :: gs, t :: ts, env => match g t env with
    | some e => gEach gs ts e
    | none => none
  | _, _, _ => none
def kidsT : T → Option (List T)
  | .dat (.tuple ds) => some (ds.map .dat)
  | .tup ts => some ts
  | _ => none
def gTp (gs : List Gs) : Gs := fun t env => match kidsT t with
  | some ts => gEach gs ts env
  | none => none
def rdGs (K : PySem.W.Frag) (B : List Nat) (gs : List Gs) : TGs := fun vs σ H Q => ∃ ts env R P S Z env', SR K env σ R P H S ∧ RepAll K R H ts vs Z ∧ Apart Z S ∧ (∀ a, Z a → R a = none ∧ P a = none) ∧ gEach gs ts env = some env' ∧
  ∀ σ' S', SR K env' σ' R P H S' → (∀ a, S' a → S a ∨ Z a) → Fix B σ σ' → Q σ' H
abbrev GsJ (X : Cx) (B : List Nat) (tgs : List Expr) (gs : List Gs) : Prop := PGs X tgs (rdGs X.K B gs)
theorem PGs.imp {X : Cx} {e : List Expr} {t t' : TGs} (h : PGs X e t) (k : ∀ v σ H Q, t' v σ H Q → t v σ H Q) : PGs X e t' := ⟨fun pins s σ H v u Q I r q => h.run pins s σ H v u Q I r (k v σ H Q q)⟩
section
variable {K : PySem.W.Frag} {B : List Nat} {σ : L2.St} {H : Hp} {Q : L2.St → Hp → Prop}
theorem RepAll.len {R : Hp} : ∀ {ts : List T} {vs : List V} {Z : ASet}, RepAll K R H ts vs Z → vs.length = ts.length
  | _, _, _, .nil => rfl
  | _, _, _, .cons _ b _ => congrArg (· + 1) b.len
theorem gsNil_imp {vs : List V} (h : rdGs K B [] vs σ H Q) : gNil vs σ H Q := by
  obtain ⟨ts, env, R, P, S, Z, env', sr, r, ap, zf, e, k⟩ := h
  cases ts with
  | cons t ts => cases e
  | nil =>
    cases e
    cases r
    exact ⟨rfl, k σ S sr (fun _ h => .inl h) (Fix.refl B σ)⟩
theorem gsCons_imp {g : Gs} {gs : List Gs} {vs : List V} (h : rdGs K B (g :: gs) vs σ H Q) : gCons (rdG K B g) (rdGs K B gs) vs σ H Q := by
  obtain ⟨ts, env, R, P, S, Z, env', sr, r, ap, zf, e, k⟩ := h
  cases ts with
  | nil => cases e
  | cons t ts =>
    cases r with
    | cons a b n =>
      rename_i v vs Z1 Z2
      unfold gEach at e
      cases hg : g t env with
      | none => rw [hg] at e; cases e
      | some e1 =>
        rw [hg] at e
        refine ⟨v, vs, rfl, t, env, R, P, S, Z1, e1, sr, a, fun x p q => ap x (.inl p) q, fun x p => zf x (.inl p), hg, fun σ1 S1 sr1 sub1 fx1 => ?_⟩
        refine ⟨ts, e1, R, P, S1, Z2, env', sr1, b, fun x p q => ?_, fun x p => zf x (.inr p), e, fun σ2 S2 sr2 sub2 fx2 => k σ2 S2 sr2 (fun x p => ?_) (fx1.trans fx2)⟩
        · exact (sub1 x q).elim (ap x (.inr p)) fun q => n x q p
        · exact (sub2 x p).elim (fun p => (sub1 x p).imp_right .inl) fun p => .inr (.inr p)
theorem gTp_imp {gs : List Gs} {n : Nat} (hn : gs.length = n) {v : V} (h : rdG K B (gTp gs) v σ H Q) : gTup K n (rdGs K B gs) v σ H Q := by
  obtain ⟨t, env, R, P, S, Z, env', sr, r, ap, zf, e, k⟩ := h
  unfold gTp at e
  have len : ∀ {gs : List Gs} {ts env env' : List T}, gEach gs ts env = some env' → ts.length = gs.length := by
    intro gs
    induction gs with
    | nil => intro ts env env' h; cases ts with
      | nil => rfl
      | cons t ts => cases h
    | cons g gs ih => intro ts env env' h; cases ts with
      | nil => cases h
      | cons t ts =>
        unfold gEach at h
        cases hg : g t env with
        | none => rw [hg] at h; cases h
        | some e1 => rw [hg] at h; exact congrArg (· + 1) (ih h)
  cases hk : kidsT t with
  | none => rw [hk] at e; cases e
  | some ts =>
    rw [hk] at e
    have l := len e
    cases r with
    | dat hd =>
      cases hd with
      | tup h1 h2 =>
        cases hk
        exact ⟨_, _, rfl, SqT.of (sr.rh.ex h1 rfl), by rw [h2.length, ← hn, ← l, List.length_map], _, env, R, P, S, NoA, env', sr, datAll_rep h2, noA_apart, fun _ z => z.elim, e, k⟩
      | _ => cases hk
    | tup h1 h2 =>
      cases hk
      exact ⟨_, _, rfl, SqT.of (sr.rh.ex h1 rfl), by rw [h2.len, ← hn, ← l], _, env, R, P, S, Z, env', sr, h2, ap, zf, e, k⟩
    | _ => cases hk
end
section
variable {X : Cx} {B : List Nat} {e : Expr} {es : List Expr} {g : Gs} {gs : List Gs} {pos : Pos}
theorem gj_nm {i : Nat} {x : Str} (hN : X.N.Nodup) (hb : i ∉ B := by decide) (hi : X.N[i]? = some x := by rfl) (hx : Loc X.env.scope x := by first | exact Or.inl rfl | exact Or.inr rfl)
    (hf : X.fn x = true ∨ X.env.scope.names.lookup x = some .local := by first | exact .inl rfl | exact .inr rfl | assumption) : GJ X B (.Name x pos) (gNm i) := PG.imp (pg_name hN hi hx hf) fun _ _ _ _ h => gNm_imp hb h
theorem gsj_nil : GsJ X B [] [] := PGs.imp pgs_nil fun _ _ _ _ h => gsNil_imp h
theorem gsj_cons (h : GJ X B e g) (k : GsJ X B es gs) (hs : (assignEach (e :: es) X.env).map (·.2) = assign e X.env :: (assignEach es X.env).map (·.2) := by rfl) : GsJ X B (e :: es) (g :: gs) := PGs.imp (pgs_cons h k hs) fun _ _ _ _ h => gsCons_imp h
theorem gj_tp {k : Nat} (hc : X.calm = true) (h : GsJ X B es gs) (hn : (assignEach es X.env).length = gs.length := by rfl) (hst : (assignEach es X.env).findIdx? (·.1) = none := by rfl) : GJ X B (.Tuple es k pos) (gTp gs) :=
  PG.imp (pg_tup hc h hn hst) fun _ _ _ _ h => gTp_imp rfl h
end
/-- target = e -/
def sAsg (gt : Gs) (f : Es) : Ss := fun env => match f env with
  | some (.ok _ p e) => match keep p with
    | some t => (gt t e).map .nx
    | none => none
  | some (.x ex e) => some (.x ex e)
  | none => none
section
variable {K : PySem.W.Frag} {W : WX} {B : List Nat} {P R H R1 H1 R2 H2 : Hp} {σ σ1 σ2 : L2.St} {S S1 S2 Z : ASet} {env env1 env2 : List T} {f : Es} {gt : Gs} {D : Ends}
theorem Mv.tgt (m : Mv K B P σ R H S env1 σ1 R1 H1 S1 Z) (sr : SR K env2 σ2 R1 P H1 S2) (sub : ∀ a, S2 a → S1 a ∨ Z a) (fx : Fix B σ1 σ2) : Mv K B P σ R H S env2 σ2 R1 H1 S2 NoA :=
  ⟨sr, noA_apart, fun _ h => h.elim, m.fr.narrow fun a h => h.elim (sub a) False.elim, m.fx.trans fx⟩
theorem sAsg_imp (h : rdS K W B (sAsg gt f) D σ H) : tAsg (rdE K W f) (rdG K B gt) D σ H := by
  obtain ⟨env, R, P, S, o, sr, ho, post⟩ := h
  unfold sAsg at ho
  cases hf : f env with
  | none => rw [hf] at ho; cases ho
  | some r =>
    rw [hf] at ho
    refine ⟨env, R, P, S, r, sr, hf, ?_⟩
    cases r with
    | x ex e => cases ho; exact fun c d R' H' S' s' f' x' => post c d σ R' H' S' (exc_of f' s') x'
    | ok q p e =>
      simp only at ho
      cases hk : keep p with
      | none => rw [hk] at ho; cases ho
      | some t =>
        rw [hk] at ho
        simp only at ho
        cases hg : gt t e with
        | none => rw [hg] at ho; cases ho
        | some e2 =>
          rw [hg] at ho; cases ho
          intro v R' H' S' Z st rv
          exact ⟨t, e, R', P, S', Z, e2, st.sr, keep_rep rv hk, st.ap, st.zf, hg, fun σ' S2 sr2 sub fx => post σ' R' H' S2 ((st.mv (B := B)).tgt sr2 sub fx)⟩
end
theorem sj_asg {X : Cx} {W : WX} {B : List Nat} {a tg : Expr} {f : Es} {gt : Gs} {pos : Pos} (he : EJ X W a f) (hg : GJ X B tg gt) (hs : swapsWithSole [tg] a pos.line X.env = pure false := by rfl) (hw : swappedStores [tg] a X.env = pure none := by rfl)
    (h1 : (assignEach [tg] X.env).map (·.2) = [assign tg X.env] := by rfl) : SJ X W B (.Assign [tg] a pos) (sAsg gt f) := PS.imp (ps_asg he hg hs hw h1) fun _ _ _ h => sAsg_imp h

/-! ### what is walked -/
/-- J yields ds, wherever the region has grown and what is held at Z stands -/
structure ItOk (J : It) (ds : List D) (P R0 H0 : Hp) (Z : ASet) : Prop where
  go : ∀ i R H, Sub R0 R → RSub R H → RSub P H → (∀ a, Z a → H a = H0 a) → i < ds.length → J.go i H
  stop : ∀ R H, Sub R0 R → RSub R H → RSub P H → (∀ a, Z a → H a = H0 a) → J.stop ds.length H
  yld : ∀ i R H x H' d, Sub R0 R → RSub R H → RSub P H → (∀ a, Z a → H a = H0 a) → ds[i]? = some d → J.yld i H x H' → ∃ R', PF R H R' H' NoA ∧ Dat (Reg R') x d
inductive Ix where
  | ok (q : Bool) (ds : List D) (e : List T)
  | x (ex : Ex) (e : List T)
abbrev Is := List T → Option Ix
def IxP (K : PySem.W.Frag) (W : WX) (σ : L2.St) (P : Hp) (env : List T) (R H : Hp) (S : ASet) (Q : It → Hp → Prop) : Ix → Prop
  | .ok q ds env' => ∀ J R' H' S' Z, Stp K σ P env R H S q env' R' H' S' Z → (∀ a, Z a → ∃ o, H' a = some o) → ItOk J ds P R' H' Z → Q J H'
  | .x ex env' => ∀ c d R' H' S', SR K env' σ R' P H' S' → Fr R H S R' H' S' → ExR K R' H' ex c d → W c d σ H'
def rdI (K : PySem.W.Frag) (W : WX) (f : Is) : TI := fun σ H Q => ∃ env R P S r, SR K env σ R P H S ∧ f env = some r ∧ IxP K W σ P env R H S Q r
abbrev IJ (X : Cx) (W : WX) (tg iter : Expr) (f : Is) : Prop := PI X tg iter (rdI X.K W f)
theorem PI.imp {X : Cx} {tg e : Expr} {t t' : TI} (h : PI X tg e t) (k : ∀ σ H Q, t' σ H Q → t σ H Q) : PI X tg e t' := ⟨fun pins s σ H R I q => h.run pins s σ H R I (k σ H R q)⟩

/-- a list's items, a tuple's -/
def iOf (sel : PV → Option (List D)) (f : Es) : Is := fun env => match f env with
  | some (.ok q p e) => if p.held = true then (sel p).map fun ds => .ok q ds e else none
  | some (.x ex e) => some (.x ex e)
  | none => none
section
variable {K : PySem.W.Frag} {W : WX} {σ : L2.St} {H : Hp} {f : Es} {Q : It → Hp → Prop}
/-- where a held list stands -/
theorem list_held {R P H : Hp} {S Z : ASet} {p : PV} {v : V} {ds : List D} (rh : RSub R H) (ph : RSub P H) (hp : p.held = true) (r : PvR K R P H S p v Z) (e : pL p = some ds) :
    ∃ a vs, v = .ref a ∧ DatAll (Reg R) vs ds ∧ ∀ R' H', Sub R R' → RSub R' H' → RSub P H' → (∀ a, Z a → H' a = H a) → H' a = some (.lst vs) := by
  cases p with
  | vw t => cases hp
  | fr t =>
    cases t with
    | dat d => cases d with
      | list xs =>
        cases e
        cases r with
        | dat h => cases h with
          | lst h1 h2 => exact ⟨_, _, rfl, h2, fun R' H' s rh' _ _ => rh'.ex (s _ _ h1) rfl⟩
      | _ => cases e
    | lst ts =>
      cases r with
      | lst h1 h2 h3 => exact ⟨_, _, rfl, (allDat_rep h2 e).1, fun R' H' _ _ _ k => (k _ (.inl rfl)).trans h1⟩
    | _ => cases e
  | pv t =>
    obtain ⟨rfl, S0, r⟩ := r
    cases t with
    | dat d => cases d with
      | list xs =>
        cases e
        cases r with
        | dat h => cases h with
          | lst h1 h2 => exact ⟨_, _, rfl, h2, fun R' H' s rh' _ _ => rh'.ex (s _ _ h1) rfl⟩
      | _ => cases e
    | lst ts =>
      cases r with
      | lst h1 h2 h3 => exact ⟨_, _, rfl, (allDat_rep h2 e).1, fun R' H' _ _ ph' _ => ph'.ex h1 rfl⟩
    | _ => cases e
theorem iList_imp (h : rdI K W (iOf pL f) σ H Q) : iList K (rdE K W f) σ H Q := by
  obtain ⟨env, R, P, S, r, sr, hr, post⟩ := h
  unfold iOf at hr
  cases hf : f env with
  | none => rw [hf] at hr; cases hr
  | some ra =>
    rw [hf] at hr
    refine ⟨env, R, P, S, ra, sr, hf, ?_⟩
    cases ra with
    | x ex e => cases hr; exact post
    | ok q p e =>
      simp only at hr
      split at hr
      · rename_i hp
        cases hl : pL p with
        | none => rw [hl] at hr; cases hr
        | some ds =>
          rw [hl] at hr; cases hr
          intro v R' H' S' Z st rv
          obtain ⟨a, vs, rfl, dv, stand⟩ := list_held st.sr.rh st.sr.ph hp rv hl
          refine ⟨a, rfl, ⟨vs, SqL.of (stand R' H' (Sub.refl R') st.sr.rh st.sr.ph fun _ _ => rfl)⟩, post _ R' H' S' Z st rv.there ⟨fun i R2 H2 s1 s2 s3 k hi => ?_, fun R2 H2 s1 s2 s3 k => ?_, fun i R2 H2 x H3 d s1 s2 s3 k hd y => ?_⟩⟩
          · have hl : i < vs.length := by rw [dv.length]; exact hi
            exact ⟨vs, vs[i], SqL.of (stand R2 H2 s1 s2 s3 k), by simp [hl]⟩
          · exact ⟨vs, SqL.of (stand R2 H2 s1 s2 s3 k), by rw [dv.length]; exact Nat.le_refl _⟩
          · obtain ⟨rfl, y⟩ := y
            obtain ⟨v', e1, e2⟩ := dv.get hd
            have e3 := y vs (SqL.of (stand R2 H3 s1 s2 s3 k))
            rw [e1] at e3; cases e3
            exact ⟨R2, PF.refl s2, e2.mono fun a o h => s1 a o h⟩
      · cases hr
theorem iTup_imp (h : rdI K W (iOf pTu f) σ H Q) : iTup K (rdE K W f) σ H Q := by
  obtain ⟨env, R, P, S, r, sr, hr, post⟩ := h
  unfold iOf at hr
  cases hf : f env with
  | none => rw [hf] at hr; cases hr
  | some ra =>
    rw [hf] at hr
    refine ⟨env, R, P, S, ra, sr, hf, ?_⟩
    cases ra with
    | x ex e => cases hr; exact post
    | ok q p e =>
      simp only at hr
      split at hr
      · rename_i hp
        cases hl : pTu p with
        | none => rw [hl] at hr; cases hr
        | some ds =>
          rw [hl] at hr; cases hr
          intro v R' H' S' Z st rv
          obtain ⟨a, vs, rfl, h1, dv⟩ := pTu_rep st.sr.ph rv hl
          have stand : ∀ R2 H2, Sub R' R2 → RSub R2 H2 → H2 a = some (.tup vs) := fun R2 H2 s1 s2 => s2.ex (s1 _ _ h1) rfl
          refine ⟨a, rfl, ⟨vs, SqT.of (stand R' H' (Sub.refl R') st.sr.rh)⟩, post _ R' H' S' Z st rv.there ⟨fun i R2 H2 s1 s2 s3 k hi => ?_, fun R2 H2 s1 s2 s3 k => ?_, fun i R2 H2 x H3 d s1 s2 s3 k hd y => ?_⟩⟩
          · have hl : i < vs.length := by rw [dv.length]; exact hi
            exact ⟨vs, vs[i], SqT.of (stand R2 H2 s1 s2), by simp [hl]⟩
          · exact ⟨vs, SqT.of (stand R2 H2 s1 s2), by rw [dv.length]; exact Nat.le_refl _⟩
          · obtain ⟨rfl, y⟩ := y
            obtain ⟨v', e1, e2⟩ := dv.get hd
            have e3 := y vs (SqT.of (stand R2 H3 s1 s2))
            rw [e1] at e3; cases e3
            exact ⟨R2, PF.refl s2, e2.mono fun a o h => s1 a o h⟩
      · cases hr
end
/-- range(n), range(a, b) -/
def rngD (lo : Int) (n : Nat) : List D := (List.range n).map fun i : Nat => .int (lo + (i : Int))
def pI (p : PV) : Option Int := match pD p with
  | some (.int i) => some i
  | _ => none
def inR (_ : Int) : Bool := true
def iRng (g : As) : Is := fun env => match g env with
  | some (.ok q [.v a] e) => match pI a with
    | some j => if inR j = true then some (.ok q (rngD 0 j.toNat) e) else none
    | none => none
  | some (.ok q [.v a, .v b] e) => match pI a, pI b with
    | some i, some j => if (inR i && inR j) = true then some (.ok q (rngD i (j - i).toNat) e) else none
    | _, _ => none
  | some (.ok _ _ _) => none
  | some (.x ex e) => some (.x ex e)
  | none => none
theorem pI_rep {K : PySem.W.Frag} {R P H : Hp} {S Z : ASet} {p : PV} {v : V} {i : Int} (rh : RSub R H) (ph : RSub P H) (r : PvR K R P H S p v Z) (e : pI p = some i) : v = .int i := by
  unfold pI at e
  split at e
  · rename_i d
    cases e
    exact dat_int (pD_rep rh ph r d)
  · cases e
/-! ranges of whole numbers of any size, walked -/
theorem turn_long {P : Program} {w : World} {K : PySem.W.Frag} {tg : Expr} (it : Addr) (lo : Int) (n : Nat) : Turn P w K tg (Itr lo n) [it] it (fun i h => IsLongIter h it (lo + (i : Nat) * 1) ((n : Int) - (i : Nat)) 1) where
  mem := by simp
  obj := fun i h st b hb => by
    have e : b = it := by simpa using hb
    subst e
    exact ⟨_, st, fun v z => by
      have z2 : Data.fields _ = Data.cell v := z
      cases z2⟩
  keep := fun i h h' st k => k it (by simp) _ st
  item := by
    intro X hP hw hK hc i pins s σ H E I hf st hg
    subst hP hw hK
    obtain ⟨g0, g1, g2, g3, g4, g5⟩ := hf it (by simp)
    have Wk := Walks.longrange (prog := X.prog) (w := X.w) (I.ok.hd hc) it lo 1 n
    refine Wk.item i s _ _ hg st fun v h' tk hv st' kk => ?_
    obtain ⟨t, rfl⟩ := hv
    have I2 : Inv X pins σ H { s with heap := h', toks := tk } := I.turned (fun b o hb e => kk b o (by simpa using hb) e) g0 g1 g3 g4 g5
    refine ⟨_, rfl, go_of (s := { s with heap := h', toks := tk }) (n := "longrange_iterator") st' rfl rfl (by decide) ⟨.int (lo + i), H, I2, ⟨t, ?_⟩, ⟨rfl, rfl⟩, st', fun b hb => (hf b hb).1⟩⟩
    rw [Int.mul_one]
  done := by
    intro X hP hw hK hc i pins s σ H E I hf st hg
    subst hP hw hK
    obtain ⟨g0, g1, g2, g3, g4, g5⟩ := hf it (by simp)
    exact wpAny_pyNext_long_end (I.ok.hd hc) st (by have : n ≤ i := hg; omega) fun h' eb => ⟨rfl, I.turned (t' := s.toks) (fun b o hb e => eb b o hb e) g0 g1 g3 g4 g5⟩
  self := fun _ _ _ _ _ st h => wpAny_pyIter_longiter st h
section
variable {X : Cx} {tg : Expr}
theorem range_itU {pins : List (Addr × Obj)} {σ : L2.St} {H : Hp} {s : Shared} {R : It → Hp → Prop} {E : Value → Shared → Prop} {lo hi : Int} {t u v : Tok} {tk : Nat} (I : Inv X pins σ H s)
    (q : R (Itr lo (hi - lo).toNat) H) : wpAny (model X.prog X.w) X.A (pyIter (.ref s.heap.objs.size)) (PIE X pins σ tg R) E { s with heap := s.heap.push { cls := .type "range", data := .fields #[.int lo t, .int hi u, .int 1 v] }, toks := tk } := by
  have I1 : Inv X pins σ H { s with heap := s.heap.push { cls := .type "range", data := .fields #[.int lo t, .int hi u, .int 1 v] }, toks := tk } := I.kept fun b o e => Heap.get?_push_of_some _ e
  have e1 : lo + ((0 : Nat) : Int) * 1 = lo := by simp
  have e2 : (((hi - lo).toNat : Nat) : Int) - ((0 : Nat) : Int) = Builtin.Range.rangeSize lo hi 1 := by rw [rangeSize_one]; split <;> omega
  cases sm : Builtin.Range.small lo hi 1 with
  | true =>
    refine wpAny_pyIter_range (IsRange.new ..) sm ?_
    refine ⟨_, [_], _, _, H, rfl, I1.kept (t' := tk) fun b o e => Heap.get?_push_of_some _ e, turn_range _ lo (hi - lo).toNat, ?_, fun b hb => ?_, q⟩
    · show IsRangeIter _ _ (lo + ((0 : Nat) : Int) * 1) ((((hi - lo).toNat : Nat) : Int) - ((0 : Nat) : Int)) 1
      rw [e1, e2]
      exact Heap.get?_push_size _ rfl
    · have e := List.mem_singleton.mp hb
      subst e
      exact I1.fpOk (Nat.le_refl _) (I1.hok.fresh (Nat.le_refl _))
  | false =>
    refine wpAny_pyIter_longrange (IsRange.new ..) sm ?_
    refine ⟨_, [_], _, _, H, rfl, I1.kept (t' := tk) fun b o e => Heap.get?_push_of_some _ e, turn_long _ lo (hi - lo).toNat, ?_, fun b hb => ?_, q⟩
    · show IsLongIter _ _ (lo + ((0 : Nat) : Int) * 1) ((((hi - lo).toNat : Nat) : Int) - ((0 : Nat) : Int)) 1
      rw [e1, e2]
      exact Heap.get?_push_size _ rfl
    · have e := List.mem_singleton.mp hb
      subst e
      exact I1.fpOk (Nat.le_refl _) (I1.hok.fresh (Nat.le_refl _))
def iRngU1 (ta : TA) : TI := fun σ H R => ta σ H fun vs H1 => ∃ j : Int, vs = [.int j] ∧ R (Itr 0 j.toNat) H1
def iRngU2 (ta : TA) : TI := fun σ H R => ta σ H fun vs H1 => ∃ i j : Int, vs = [.int i, .int j] ∧ R (Itr i (j - i).toNat) H1
theorem pi_rngU1 {a : Expr} {ta : TA} {p pos : Pos} (hg : Gl X "range") (hm : X.mg "range" = none) (ha : PA X [a] ta) (hs : starEach [a] X.env = [(false, eval a X.env)] := by rfl) : PI X tg (.Call (.Name "range" p) [a] [] pos) (iRngU1 ta) := by
  refine ⟨fun pins s σ H R I h => ?_⟩
  refine Call_ (ld_blt I hg hm boot_range (PyProof.Rows.callWith_type1 (thn (ha.run pos pins s σ H _ I h) fun us s1 ⟨vs, H1, I1, r1, q1⟩ => ?_) hs rfl))
  obtain ⟨j, e, q⟩ := q1
  subst e
  cases r1 with
  | cons r rr =>
    cases rr
    obtain ⟨t, rfl⟩ := r
    exact call_range_1 (range_itU I1 (by simpa using q))
theorem pi_rngU2 {a b : Expr} {ta : TA} {p pos : Pos} (hg : Gl X "range") (hm : X.mg "range" = none) (ha : PA X [a, b] ta) (hs : starEach [a, b] X.env = [(false, eval a X.env), (false, eval b X.env)] := by rfl) (hs2 : starEach [b] X.env = [(false, eval b X.env)] := by rfl) :
    PI X tg (.Call (.Name "range" p) [a, b] [] pos) (iRngU2 ta) := by
  refine ⟨fun pins s σ H R I h => ?_⟩
  refine Call_ (ld_blt I hg hm boot_range (PyProof.Rows.callWith_type1 (thn (ha.run pos pins s σ H _ I h) fun us s1 ⟨vs, H1, I1, r1, q1⟩ => ?_) (by rw [hs, hs2]) (by rw [hs2]; rfl)))
  obtain ⟨i, j, e, q⟩ := q1
  subst e
  cases r1 with
  | cons r rr =>
    cases rr with
    | cons r2 rr =>
      cases rr
      obtain ⟨t, rfl⟩ := r
      obtain ⟨t2, rfl⟩ := r2
      exact call_range_2 (range_itU I1 q)
end
theorem itr_ok {P R0 H0 : Hp} {Z : ASet} (lo : Int) (n : Nat) : ItOk (Itr lo n) (rngD lo n) P R0 H0 Z := by
  have l : (rngD lo n).length = n := by unfold rngD; rw [List.length_map, List.length_range]
  refine ⟨fun i R H _ _ _ _ hi => by rw [l] at hi; exact hi, fun R H _ _ _ _ => by rw [l]; exact Nat.le_refl n, fun i R H x H' d _ rh _ _ hd y => ?_⟩
  obtain ⟨rfl, rfl⟩ := y
  refine ⟨R, PF.refl rh, ?_⟩
  unfold rngD at hd
  rw [List.getElem?_map] at hd
  cases e : (List.range n)[i]? with
  | none => rw [e] at hd; cases hd
  | some j =>
    rw [e] at hd
    have : j = i := by
      have q := List.getElem?_range (n := n) (i := i) (by
        have := (List.getElem?_eq_some_iff.mp e).1
        rwa [List.length_range] at this)
      rw [q] at e; cases e; rfl
    subst this
    cases hd
    exact .int _
section
variable {K : PySem.W.Frag} {W : WX} {σ : L2.St} {H : Hp} {g : As} {Q : It → Hp → Prop}
theorem iRng1_imp (ok : ∀ env q l e, g env = some (.ok q l e) → l.length = 1) (h : rdI K W (iRng g) σ H Q) : iRngU1 (rdA K W g) σ H Q := by
  obtain ⟨env, R, P, S, r, sr, hr, post⟩ := h
  unfold iRng at hr
  cases hf : g env with
  | none => rw [hf] at hr; cases hr
  | some ra =>
    rw [hf] at hr
    refine ⟨env, R, P, S, ra, sr, hf, ?_⟩
    cases ra with
    | x ex e => cases hr; exact post
    | ok q l e =>
      have ll := ok env q l e hf
      match l, ll, hr with
      | [.v a], _, hr =>
        simp only at hr
        cases ha : pI a with
        | none => rw [ha] at hr; cases hr
        | some j =>
          rw [ha] at hr
          simp only at hr
          split at hr
          · rename_i c
            cases hr
            intro vs R' H' S' Z st rv
            cases rv with
            | cons r1 r2 n1 =>
              cases r2
              exact ⟨j, by rw [pI_rep st.sr.rh st.sr.ph (show PvR K R' P H' S' a _ _ from r1) ha], post _ R' H' S' _ st (fun x z => z.elim (fun z => PvR.there (show PvR K R' P H' S' a _ _ from r1) x z) False.elim) (itr_ok 0 j.toNat)⟩
          · cases hr
      | [.m i], _, hr => cases hr
theorem iRng2_imp (ok : ∀ env q l e, g env = some (.ok q l e) → l.length = 2) (h : rdI K W (iRng g) σ H Q) : iRngU2 (rdA K W g) σ H Q := by
  obtain ⟨env, R, P, S, r, sr, hr, post⟩ := h
  unfold iRng at hr
  cases hf : g env with
  | none => rw [hf] at hr; cases hr
  | some ra =>
    rw [hf] at hr
    refine ⟨env, R, P, S, ra, sr, hf, ?_⟩
    cases ra with
    | x ex e => cases hr; exact post
    | ok q l e =>
      have ll := ok env q l e hf
      match l, ll, hr with
      | [.v a, .v b], _, hr =>
        simp only at hr
        cases ha : pI a with
        | none => rw [ha] at hr; cases hr
        | some i =>
          cases hb : pI b with
          | none => rw [ha, hb] at hr; cases hr
          | some j =>
            rw [ha, hb] at hr
            simp only at hr
            split at hr
            · rename_i c
              cases hr
              intro vs R' H' S' Z st rv
              cases rv with
              | cons r1 r2 n1 =>
                cases r2 with
                | cons r2 r3 n2 =>
                  cases r3
                  refine ⟨i, j, by rw [pI_rep st.sr.rh st.sr.ph (show PvR K R' P H' S' a _ _ from r1) ha, pI_rep st.sr.rh st.sr.ph (show PvR K R' P H' S' b _ _ from r2) hb], post _ R' H' S' _ st (fun x z => ?_) (itr_ok i (j - i).toNat)⟩
                  rcases z with z | z | z
                  · exact PvR.there (show PvR K R' P H' S' a _ _ from r1) x z
                  · exact PvR.there (show PvR K R' P H' S' b _ _ from r2) x z
                  · exact z.elim
            · cases hr
      | [.v a, .m i], _, hr => cases hr
      | [.m i, _], _, hr => cases hr
theorem aOne {fa : Es} : ∀ env q l e, aCons fa aNil env = some (.ok q l e) → l.length = 1 := by
  intro env q l e h
  unfold aCons aNil at h
  split at h
  · simp only at h
    split at h
    · cases h; rfl
    · cases h
  · cases h
  · cases h
theorem aTwo {fa fb : Es} : ∀ env q l e, aCons fa (aCons fb aNil) env = some (.ok q l e) → l.length = 2 := by
  intro env q l e h
  unfold aCons at h
  split at h
  · rename_i q1 p1 env1 _
    split at h
    · rename_i hh
      split at h
      · cases h
        exact congrArg (· + 1) (aOne _ _ _ _ hh)
      · cases h
    · rename_i h2
      exact (h2 _ _ _ h).elim
  · cases h
  · cases h
end
section
variable {X : Cx} {W : WX} {tg e a b : Expr} {f fa fb : Es} {p pos : Pos}
theorem ij_list (h : EJ X W e f) : IJ X W tg e (iOf pL f) := PI.imp (pi_list h) fun _ _ _ h => iList_imp h
theorem ij_tup (h : EJ X W e f) : IJ X W tg e (iOf pTu f) := PI.imp (pi_tup h) fun _ _ _ h => iTup_imp h
theorem ij_rng1 (gl : Gl X "range") (hm : X.mg "range" = none) (h : EJ X W a fa) (hs : starEach [a] X.env = [(false, eval a X.env)] := by rfl) (hs3 : starEach (a :: []) X.env = (false, eval a X.env) :: starEach [] X.env := by rfl) : IJ X W tg (.Call (.Name "range" p) [a] [] pos) (iRng (aCons fa aNil)) :=
  PI.imp (pi_rngU1 gl hm (aj_cons h aj_nil hs3) hs) fun _ _ _ h => iRng1_imp aOne h
theorem ij_rng2 (gl : Gl X "range") (hm : X.mg "range" = none) (h : EJ X W a fa) (k : EJ X W b fb) (hs : starEach [a, b] X.env = [(false, eval a X.env), (false, eval b X.env)] := by rfl) (hs2 : starEach [b] X.env = [(false, eval b X.env)] := by rfl)
    (hs3 : starEach (a :: [b]) X.env = (false, eval a X.env) :: starEach [b] X.env := by rfl) (hs4 : starEach (b :: []) X.env = (false, eval b X.env) :: starEach [] X.env := by rfl) : IJ X W tg (.Call (.Name "range" p) [a, b] [] pos) (iRng (aCons fa (aCons fb aNil))) :=
  PI.imp (pi_rngU2 gl hm (aj_cons h (aj_cons k aj_nil hs4) hs3) hs hs2) fun _ _ _ h => iRng2_imp aTwo h
end
end VS

set_option Elab.async false
set_option linter.all false
set_option maxRecDepth 100000
/-! Value semantics, 10: for, while, list comprehensions. -/
namespace VS
open PySem PySem.Spec PyProof.Rows L2

def loopF (gt : Gs) (g : Ss) : List D → List T → Option Out
  | [], e => some (.nx e)
  | d :: ds, e => match gt (.dat d) e with
    | none => none
    | some e1 => match g e1 with
      | some (.nx e2) => loopF gt g ds e2
      | some (.ct e2) => loopF gt g ds e2
      | some (.bk e2) => some (.nx e2)
      | r => r
def sFor (fi : Is) (gt : Gs) (g : Ss) : Ss := fun env => match fi env with
  | some (.ok _ ds e) => loopF gt g ds e
  | some (.x ex e) => some (.x ex e)
  | none => none
section
variable {K : PySem.W.Frag} {W : WX} {B : List Nat} {P R H R1 H1 R2 H2 : Hp} {σ σ1 σ2 : L2.St} {S S1 S2 Z : ASet} {env env1 env2 : List T} {fi : Is} {gt : Gs} {g : Ss} {D : Ends}
theorem Mv.pure (m : Mv K B P σ R H S env1 σ1 R1 H1 S1 NoA) (f : PF R1 H1 R2 H2 NoA) : Mv K B P σ R H S env1 σ1 R2 H2 S1 NoA := by
  obtain ⟨a, _⟩ := m.sr.pure f
  refine ⟨a, noA_apart, fun _ h => h.elim, ?_, m.fx⟩
  have z := m.fr
  rw [two_no] at z ⊢
  exact z.trans (Fr.quiet f)
/-- what is held beside a frame stays over its steps -/
theorem Mv.beside (m : Mv K B P σ R H S env1 σ1 R1 H1 S1 Z2) {Z : ASet} (th : ∀ a, Z a → ∃ o, H a = some o) (ap : Apart Z S) (rz : ∀ a, Z a → R a = none) : (∀ a, Z a → H1 a = H a) ∧ (∀ a, Z a → R1 a = none) ∧ Apart Z S1 ∧ Apart Z Z2 := by
  refine ⟨fun a h => ?_, fun a h => ?_, fun a h k => ?_, fun a h k => ?_⟩
  · obtain ⟨o, e⟩ := th a h
    rw [e]; exact m.fr.keep a o e fun z => ap a h z
  · rcases none_or (H := R1) a with z | ⟨u, z⟩
    · exact z
    · rcases m.fr.nw a (by rw [z]; exact fun y => nomatch y) with y | y | y
      · exact absurd (rz a h) y
      · exact (ap a h y).elim
      · obtain ⟨o, e⟩ := th a h
        rw [y] at e; cases e
  · rcases m.fr.sub a (.inl k) with y | y
    · exact ap a h y
    · obtain ⟨o, e⟩ := th a h
      rw [y] at e; cases e
  · rcases m.fr.sub a (.inr k) with y | y
    · exact ap a h y
    · obtain ⟨o, e⟩ := th a h
      rw [y] at e; cases e
theorem sFor_imp (h : rdS K W B (sFor fi gt g) D σ H) : tFor (rdI K W fi) (rdG K B gt) (rdS K W B g) D σ H := by
  obtain ⟨env, R, P, S, o, sr, ho, post⟩ := h
  unfold sFor at ho
  cases hf : fi env with
  | none => rw [hf] at ho; cases ho
  | some r =>
    rw [hf] at ho
    refine ⟨env, R, P, S, r, sr, hf, ?_⟩
    cases r with
    | x ex e => cases ho; exact fun c d R' H' S' s' f' x' => post c d σ R' H' S' (exc_of f' s') x'
    | ok q ds e =>
      simp only at ho
      intro J R1 H1 S1 Z1 st th J_ok
      let Wst : Nat → L2.St → Hp → Prop := fun i σ' H' => i ≤ ds.length ∧ ∃ env' R' S', Mv K B P σ R H S env' σ' R' H' S' NoA ∧ Sub R1 R' ∧ (∀ a, Z1 a → H' a = H1 a) ∧ (∀ a, Z1 a → R' a = none) ∧ Apart Z1 S' ∧ loopF gt g (ds.drop i) env' = some o
      refine ⟨fun i m σ' H' => m = ds.length - i ∧ Wst i σ' H', ⟨ds.length, by simp, Nat.zero_le _, e, R1, S1, (st.mv (B := B)).drop, Sub.refl R1, fun _ _ => rfl, fun a h => (st.zf a h).1, st.ap, ho⟩, ?_⟩
      rintro i m σ' H' ⟨rfl, hi, env', R', S', mv, s1, zk, zr, ap, hl⟩
      by_cases hlt : i < ds.length
      · refine .inr ⟨J_ok.go i R' H' s1 mv.sr.rh mv.sr.ph zk hlt, fun σ3 H3 => Wst (i + 1) σ3 H3, fun σ3 H3 w => ⟨ds.length - (i + 1), by omega, rfl, w⟩, fun x H2 y => ?_⟩
        have hd : ds[i]? = some ds[i] := by simp [hlt]
        obtain ⟨R2, pf, dx⟩ := J_ok.yld i R' H' x H2 _ s1 mv.sr.rh mv.sr.ph zk hd y
        rw [List.drop_eq_getElem_cons hlt] at hl
        unfold loopF at hl
        have mv2 := mv.pure pf
        have th' : ∀ a, Z1 a → ∃ o, H' a = some o := fun a h => by rw [zk a h]; exact th a h
        have zk2 : ∀ a, Z1 a → H2 a = H1 a := fun a h => by
          obtain ⟨u, e⟩ := th' a h
          rw [pf.hh a u e, ← e, zk a h]
        have zr2 : ∀ a, Z1 a → R2 a = none := fun a h => by
          rcases none_or (H := R2) a with z | ⟨u, z⟩
          · exact z
          · rcases pf.nw a (by rw [z]; exact fun y => nomatch y) with y | y
            · exact absurd (zr a h) y
            · obtain ⟨u, e⟩ := th' a h
              rw [y] at e; cases e
        have th2 : ∀ a, Z1 a → ∃ o, H2 a = some o := fun a h => by rw [zk2 a h]; exact th a h
        cases hg : gt (.dat ds[i]) env' with
        | none => rw [hg] at hl; cases hl
        | some e1 =>
          rw [hg] at hl
          simp only at hl
          refine ⟨.dat ds[i], env', R2, P, S', NoA, e1, mv2.sr, .dat dx, noA_apart, fun _ z => z.elim, hg, fun σ2 S2 sr2 sub fx => ?_⟩
          have mv3 := mv2.tgt sr2 sub fx
          have ap3 : Apart Z1 S2 := fun a x y => (sub a y).elim (ap a x) False.elim
          cases hb : g e1 with
          | none => rw [hb] at hl; cases hl
          | some o1 =>
            rw [hb] at hl
            refine ⟨e1, R2, P, S2, o1, sr2, hb, ?_⟩
            have again : ∀ {e2 : List T}, loopF gt g (ds.drop (i + 1)) e2 = some o → ∀ σ3 R3 H3 S3, Mv K B P σ2 R2 H2 S2 e2 σ3 R3 H3 S3 NoA → Wst (i + 1) σ3 H3 := by
              intro e2 he σ3 R3 H3 S3 mv4
              obtain ⟨k1, k2, k3, _⟩ := mv4.beside th2 ap3 zr2
              exact ⟨hlt, e2, R3, S3, mv3.trans mv4, (s1.trans pf.rr).trans mv4.fr.rr, fun a h => (k1 a h).trans (zk2 a h), k2, k3, he⟩
            cases o1 with
            | nx e2 => exact fun σ3 R3 H3 S3 mv4 => again hl σ3 R3 H3 S3 mv4
            | ct e2 => exact fun σ3 R3 H3 S3 mv4 => again hl σ3 R3 H3 S3 mv4
            | bk e2 => cases hl; exact fun σ3 R3 H3 S3 mv4 => post σ3 R3 H3 S3 (mv3.trans mv4)
            | rt t e2 => cases hl; exact fun v σ3 R3 H3 S3 Z3 mv4 rt => post v σ3 R3 H3 S3 Z3 (mv3.trans mv4) rt
            | x ex e2 => cases hl; exact fun c d σ3 R3 H3 S3 mv4 ex' => post c d σ3 R3 H3 S3 (mv3.trans mv4) ex'
      · have ei : i = ds.length := by omega
        subst ei
        rw [List.drop_length] at hl
        cases hl
        exact .inl ⟨J_ok.stop R' H' s1 mv.sr.rh mv.sr.ph zk, post σ' R' H' S' mv⟩
end
theorem sj_for {X : Cx} {W : WX} {B : List Nat} {tg iter : Expr} {body : List Stmt} {fi : Is} {gt : Gs} {g : Ss} {pos : Pos} (hp : PassesOwn (model X.prog X.w) X.A X.env X.xe) (hc : X.calm = true) (hi : IJ X W tg iter fi) (hg : GJ X B tg gt) (hb : SJs X W B body g)
    (hs : ∀ x, foldedSetIterable iter X.env x = pure x := by intro _; rfl) : SJ X W B (.For tg iter body [] pos) (sFor fi gt g) := PS.imp (ps_for hp hc hi hg hb hs) fun _ _ _ h => sFor_imp h

/-! ### while: n turns at most -/
def whileF (fc : Es) (g : Ss) : Nat → List T → Option Out
  | 0, _ => none
  | n + 1, e => match fc e with
    | some (.ok _ p e1) => match pB p with
      | some true => match g e1 with
        | some (.nx e2) => whileF fc g n e2
        | some (.ct e2) => whileF fc g n e2
        | some (.bk e2) => some (.nx e2)
        | r => r
      | some false => some (.nx e1)
      | none => none
    | some (.x ex e) => some (.x ex e)
    | none => none
def sWhile (n : Nat) (fc : Es) (g : Ss) : Ss := fun env => whileF fc g n env
theorem sWhile_imp {K : PySem.W.Frag} {W : WX} {B : List Nat} {n : Nat} {fc : Es} {g : Ss} {D : Ends} {σ : L2.St} {H : Hp} (h : rdS K W B (sWhile n fc g) D σ H) : tWhile (rdT K W fc) (rdS K W B g) D σ H := by
  obtain ⟨env, R, P, S, o, sr, ho, post⟩ := h
  refine ⟨fun m σ' H' => ∃ env' R' S', Mv K B P σ R H S env' σ' R' H' S' NoA ∧ whileF fc g m env' = some o, ⟨n, env, R, S, sr.stp.mv, ho⟩, ?_⟩
  rintro m σ' H' ⟨env', R', S', mv, hw⟩
  cases m with
  | zero => cases hw
  | succ m =>
    unfold whileF at hw
    cases hf : fc env' with
    | none => rw [hf] at hw; cases hw
    | some r =>
      rw [hf] at hw
      refine ⟨env', R', P, S', r, mv.sr, hf, ?_⟩
      cases r with
      | x ex e => cases hw; exact fun c d R2 H2 S2 s2 f2 x2 => post c d σ' R2 H2 S2 (mv.trans (exc_of f2 s2)) x2
      | ok q p e1 =>
        simp only at hw
        cases hb : pB p with
        | none => rw [hb] at hw; cases hw
        | some k =>
          rw [hb] at hw
          refine ⟨k, hb, fun v R2 H2 S2 Z2 st rv => ?_⟩
          have mv2 := mv.trans (st.mv (B := B)).drop
          cases k with
          | false => cases hw; exact post σ' R2 H2 S2 mv2
          | true =>
            simp only at hw
            refine ⟨fun σ3 H3 => ∃ env3 R3 S3, Mv K B P σ R H S env3 σ3 R3 H3 S3 NoA ∧ whileF fc g m env3 = some o, fun σ3 H3 w => ⟨m, Nat.lt_succ_self m, w⟩, ?_⟩
            cases hg : g e1 with
            | none => rw [hg] at hw; cases hw
            | some o1 =>
              rw [hg] at hw
              refine ⟨e1, R2, P, S2, o1, mv2.sr, hg, ?_⟩
              cases o1 with
              | nx e2 => exact fun σ3 R3 H3 S3 mv3 => ⟨e2, R3, S3, mv2.trans mv3, hw⟩
              | ct e2 => exact fun σ3 R3 H3 S3 mv3 => ⟨e2, R3, S3, mv2.trans mv3, hw⟩
              | bk e2 => cases hw; exact fun σ3 R3 H3 S3 mv3 => post σ3 R3 H3 S3 (mv2.trans mv3)
              | rt t e2 => cases hw; exact fun v σ3 R3 H3 S3 Z3 mv3 rt => post v σ3 R3 H3 S3 Z3 (mv2.trans mv3) rt
              | x ex e2 => cases hw; exact fun c d σ3 R3 H3 S3 mv3 ex' => post c d σ3 R3 H3 S3 (mv2.trans mv3) ex'
theorem sj_while {X : Cx} {W : WX} {B : List Nat} (n : Nat) {c : Expr} {body : List Stmt} {fc : Es} {g : Ss} {pos : Pos} (hp : PassesOwn (model X.prog X.w) X.A X.env X.xe) (hc : TJ X W c fc) (hb : SJs X W B body g) : SJ X W B (.While c body [] pos) (sWhile n fc g) :=
  PS.imp (ps_while hp hc hb) fun _ _ _ h => sWhile_imp h
theorem sj_break {X : Cx} {W : WX} {B : List Nat} {pos : Pos} : SJ X W B (.Break pos) (fun env => some (.bk env)) := PS.imp ps_break fun σ H D h => by
  obtain ⟨env, R, P, S, o, sr, ho, post⟩ := h
  cases ho
  exact post σ R H S sr.stp.mv
theorem sj_continue {X : Cx} {W : WX} {B : List Nat} {pos : Pos} : SJ X W B (.Continue pos) (fun env => some (.ct env)) := PS.imp ps_continue fun σ H D h => by
  obtain ⟨env, R, P, S, o, sr, ho, post⟩ := h
  cases ho
  exact post σ R H S sr.stp.mv
end VS

set_option Elab.async false
set_option linter.all false
set_option maxRecDepth 100000
/-! Value semantics, 11: list comprehensions. -/
namespace VS
open PySem PySem.Spec PyProof.Rows L2

def wipeE : List T → List Nat → List T
  | e, [] => e
  | e, i :: is => (wipeE e is).set i .un
def restE : List T → List T → List Nat → List T
  | _, e, [] => e
  | e0, e, i :: is => (restE e0 e is).set i (e0.getD i .un)
def calmT : T → Bool
  | .un => true
  | .dat _ => true
  | _ => false
def compF (gt : Gs) (fc fe : Es) (own : List Nat) : List D → List T → Bool → List T → Option Er
  | [], acc, q, e => some (.ok q (.fr (.lst acc)) e)
  | d :: ds, acc, q, e => match gt (.dat d) e with
    | none => none
    | some e1 => match fc e1 with
      | some (.ok q1 p1 e2) => match pB p1 with
        | some true => match fe e2 with
          | some (.ok q2 p2 e3) => match keep p2 with
            | some t => compF gt fc fe own ds (acc ++ [t]) (q && q1 && q2) (wipeE e3 own)
            | none => none
          | _ => none
        | some false => compF gt fc fe own ds acc (q && q1) (wipeE e2 own)
        | none => none
      | _ => none
def eComp (fi : Is) (gt : Gs) (fc fe : Es) (own : List Nat) : Es := fun env => match fi env with
  | some (.ok q ds e) => if (decide (ds.length ≤ sizeLine) && decide own.Nodup && own.all fun i => calmT (e.getD i .un)) = true then match compF gt fc fe own ds [] true (wipeE e own) with
    | some (.ok q2 p e2) => some (.ok (q && q2) p (if q2 = true then e else restE e e2 own))
    | _ => none
    else none
  | some (.x ex e) => some (.x ex e)
  | none => none
def cYes : Es := fun env => some (.ok true (vBl true) env)
/-- nothing leaves a comprehension's block -/
def W0 : WX := fun _ _ _ _ => False

section
variable {K : PySem.W.Frag} {R R' P H H' : Hp}
theorem RepSl.wipe1 : ∀ {es : List T} {σ : L2.St} {S : ASet} (i : Nat), RepSl K R P H es σ S → ∃ S', RepSl K R P H (es.set i .un) (σ.set i none) S' ∧ ∀ a, S' a → S a
  | _, _, _, _, .nil => ⟨NoA, .nil, fun _ h => h⟩
  | _, _, _, 0, .no b => ⟨_, .no b, fun _ h => h⟩
  | _, _, _, 0, .so a b n => ⟨_, .no b, fun _ h => .inr h⟩
  | _, _, _, i + 1, .no b => let ⟨S', x, y⟩ := RepSl.wipe1 i b; ⟨S', .no x, y⟩
  | _, _, _, i + 1, .so a b n => let ⟨S', x, y⟩ := RepSl.wipe1 i b; ⟨_, .so a x fun z p q => n z p (y z q), fun z h => h.imp id (y z)⟩
theorem RepSl.wipes : ∀ {es : List T} {σ : L2.St} {S : ASet} (vs : List Nat), RepSl K R P H es σ S → ∃ S', RepSl K R P H (wipeE es vs) (wipe σ vs) S' ∧ ∀ a, S' a → S a
  | _, _, S, [], h => ⟨S, h, fun _ h => h⟩
  | _, _, S, i :: vs, h => by
    obtain ⟨S1, a, b⟩ := RepSl.wipes vs h
    obtain ⟨S2, c, d⟩ := a.wipe1 i
    exact ⟨S2, c, fun x h => b x (d x h)⟩
/-- a slot's data comes back -/
theorem RepSl.unwipe : ∀ {es : List T} {τ : L2.St} {S : ASet} {i : Nat} {t : T}, RepSl K R P H es (τ.set i none) S → i < τ.length → (t = .un ∨ ∃ d v, t = .dat d ∧ τ[i]? = some (some v) ∧ Dat (Reg R) v d) → ∃ S', RepSl K R P H (es.set i t) τ S' ∧ ∀ a, S' a → S a
  | es, [], _, i, t, h, hi, _ => by simp at hi
  | e :: es, x :: τ, S, 0, t, h, hi, c => by
    have h : RepSl K R P H (e :: es) (none :: τ) S := h
    cases h with
    | no b =>
      rcases c with rfl | ⟨d, v, rfl, hv, hd⟩
      · exact ⟨_, .no b, fun _ h => h⟩
      · simp at hv
        subst hv
        exact ⟨_, .so (.own (.dat hd)) b noA_apart, fun _ h => h.elim False.elim id⟩
  | [], x :: τ, S, 0, t, h, hi, c => nomatch (show RepSl K R P H [] (none :: τ) S from h)
  | es, x :: τ, S, i + 1, t, h, hi, c => by
    have h : RepSl K R P H es (x :: τ.set i none) S := h
    cases h with
    | no b =>
      obtain ⟨S', r, s⟩ := RepSl.unwipe (τ := τ) (i := i) (t := t) b (by simpa using hi) (by simpa using c)
      exact ⟨S', .no r, s⟩
    | so a b n =>
      obtain ⟨S', r, s⟩ := RepSl.unwipe (τ := τ) (i := i) (t := t) b (by simpa using hi) (by simpa using c)
      exact ⟨_, .so a r fun z p q => n z p (s z q), fun z h => h.imp id (s z)⟩
theorem wipe_get : ∀ {σ : L2.St} {vs : List Nat} {i : Nat}, i ∉ vs → (wipe σ vs)[i]? = σ[i]?
  | _, [], _, _ => rfl
  | σ, j :: vs, i, h => by
    rw [List.mem_cons, not_or] at h
    show ((wipe σ vs).set j none)[i]? = _
    rw [List.getElem?_set_ne (Ne.symm h.1)]
    exact wipe_get h.2
theorem RepSl.rests {e0 : List T} {σ : L2.St} : ∀ {vs : List Nat} {es : List T} {S : ASet}, RepSl K R P H es (wipe σ vs) S → vs.Nodup → (∀ i ∈ vs, i < σ.length ∧ (e0.getD i .un = .un ∨ ∃ d v, e0.getD i .un = .dat d ∧ σ[i]? = some (some v) ∧ Dat (Reg R) v d)) → ∃ S', RepSl K R P H (restE e0 es vs) σ S' ∧ ∀ a, S' a → S a
  | [], es, S, h, _, _ => ⟨S, h, fun _ h => h⟩
  | i :: vs, es, S, h, nd, c => by
    obtain ⟨ni, nd'⟩ := List.nodup_cons.mp nd
    obtain ⟨li, ci⟩ := c i List.mem_cons_self
    -- first slot i, then the rest: the stores commute
    have h : RepSl K R P H es ((wipe σ vs).set i none) S := h
    obtain ⟨S1, r1, s1⟩ := h.unwipe (t := e0.getD i .un) (by rw [wipe_length]; exact li) (by rw [wipe_get ni]; exact ci)
    obtain ⟨S2, r2, s2⟩ := RepSl.rests r1 nd' fun j hj => c j (List.mem_cons_of_mem _ hj)
    refine ⟨S2, ?_, fun a h => s1 a (s2 a h)⟩
    have com : ∀ (ws : List Nat), i ∉ ws → restE e0 (es.set i (e0.getD i .un)) ws = (restE e0 es ws).set i (e0.getD i .un) := by
      intro ws
      induction ws with
      | nil => intro _; rfl
      | cons j ws ih =>
        intro h
        rw [List.mem_cons, not_or] at h
        show (restE e0 (es.set i _) ws).set j _ = ((restE e0 es ws).set j _).set i _
        rw [ih h.2, List.set_comm _ _ h.1]
    rw [com vs ni] at r2
    exact r2
theorem RepAll.snoc : ∀ {ts : List T} {vs : List V} {Z Z' : ASet} {t : T} {v : V}, RepAll K R H ts vs Z → Rep K R H t v Z' → Apart Z Z' → RepAll K R H (ts ++ [t]) (vs ++ [v]) (TwoA Z Z')
  | _, _, _, Z', t, v, .nil, r, _ => by
    have z := RepAll.cons r (RepAll.nil (K := K) (R := R) (H := H)) fun _ _ h => h.elim
    rw [two_no] at z
    rw [no_two]
    exact z
  | _, _, _, Z', t, v, .cons (S := S1) (S' := S2) a b n, r, ap => by
    have z := RepAll.cons a (RepAll.snoc b r fun x p q => ap x (.inr p) q) fun x p q => q.elim (n x p) (ap x (.inl p))
    have e : TwoA S1 (TwoA S2 Z') = TwoA (TwoA S1 S2) Z' := funext fun a => propext ⟨fun h => h.elim (fun h => .inl (.inl h)) fun h => h.elim (fun h => .inl (.inr h)) .inr, fun h => h.elim (fun h => h.elim .inl fun h => .inr (.inl h)) fun h => .inr (.inr h)⟩
    rw [e] at z
    exact z

theorem wipe_in : ∀ {σ : L2.St} {vs : List Nat} {i : Nat}, i ∈ vs → i < σ.length → (wipe σ vs)[i]? = some none
  | σ, j :: vs, i, h, l => by
    show ((wipe σ vs).set j none)[i]? = _
    by_cases e : j = i
    · subst e
      exact List.getElem?_set_self (by rw [wipe_length]; exact l)
    · rw [List.getElem?_set_ne e]
      rcases List.mem_cons.mp h with q | q
      · exact absurd q.symm e
      · exact wipe_in q l
theorem wipe_same {σ σ2 : L2.St} {vs B : List Nat} (fx : Fix B (wipe σ vs) σ2) (cov : ∀ j, j < σ.length → j ∈ vs ∨ j ∈ B) : wipe σ2 vs = wipe σ vs := by
  have l : σ2.length = σ.length := by rw [fx.1, wipe_length]
  refine List.ext_getElem? fun j => ?_
  by_cases hj : j < σ.length
  · by_cases hv : j ∈ vs
    · rw [wipe_in hv hj, wipe_in hv (by rw [l]; exact hj)]
    · rw [wipe_get hv]
      exact fx.2 j ((cov j hj).resolve_left hv)
  · have a : (wipe σ2 vs).length ≤ j := by rw [wipe_length, l]; omega
    have b : (wipe σ vs).length ≤ j := by rw [wipe_length]; omega
    rw [List.getElem?_eq_none a, List.getElem?_eq_none b]
end
section
variable {K : PySem.W.Frag} {W : WX} {B : List Nat} {P R H R1 H1 R2 H2 : Hp} {σ : L2.St} {S S1 S2 Z Z1 Y : ASet} {env env1 env2 : List T} {q : Bool} {fi : Is} {gt : Gs} {fc fe : Es} {own : List Nat}
/-- what is held beside stays -/
theorem Fr.beside (f : Fr R H S R1 H1 S1) (th : ∀ a, Y a → ∃ o, H a = some o) (ap : Apart Y S) (rz : ∀ a, Y a → R a = none) : (∀ a, Y a → H1 a = H a) ∧ (∀ a, Y a → R1 a = none) ∧ Apart Y S1 := by
  refine ⟨fun a h => ?_, fun a h => ?_, fun a h k => ?_⟩
  · obtain ⟨o, e⟩ := th a h
    rw [e]; exact f.keep a o e fun z => ap a h z
  · rcases none_or (H := R1) a with z | ⟨u, z⟩
    · exact z
    · rcases f.nw a (by rw [z]; exact fun y => nomatch y) with y | y | y
      · exact absurd (rz a h) y
      · exact (ap a h y).elim
      · obtain ⟨o, e⟩ := th a h
        rw [y] at e; cases e
  · rcases f.sub a k with y | y
    · exact ap a h y
    · obtain ⟨o, e⟩ := th a h
      rw [y] at e; cases e
theorem Stp.strict (s : Stp K σ P env R H S q env1 R1 H1 S1 Z) (h : q = true) : ∀ a, R1 a ≠ none → R a ≠ none ∨ H a = none := fun a x => by
  rcases s.fr.nw a x with y | y | y
  · exact .inl y
  · obtain ⟨_, _, e, _⟩ := s.qt h
    rw [← e] at y
    exact absurd (s.sr.sf a y).1 x
  · exact .inr y
/-- between two turns of a comprehension: the new list stands at D -/
structure Cst (K : PySem.W.Frag) (σ : L2.St) (P R1 H1 : Hp) (S1 Z1 : ASet) (own : List Nat) (A : Addr) (i : Nat) (acc : List T) (q : Bool) (env : List T) (R H : Hp) (S Za : ASet) (vs : List V) : Prop where
  sr : SR K env (wipe σ own) R P H S
  s1 : Sub R1 R
  at_ : H A = some (.lst vs)
  rep : RepAll K R H acc vs Za
  le : vs.length ≤ i
  zk : ∀ a, Z1 a → H a = H1 a
  ap : Apart (OneA A (TwoA Z1 Za)) S
  zr : ∀ a, OneA A (TwoA Z1 Za) a → R a = none ∧ P a = none
  n1 : ¬ Za A
  n2 : Apart Z1 Za
  n3 : ¬ Z1 A
  fr : Fr R1 H1 S1 R H (TwoA S (OneA A Za))
  qt : q = true → Sub H1 H ∧ (∀ a, R a ≠ none → R1 a ≠ none ∨ H1 a = none) ∧ ∀ a, Za a → H1 a = none
theorem Cst.there {A : Addr} {i : Nat} {acc : List T} {Za : ASet} {vs : List V} (c : Cst K σ P R1 H1 S1 Z1 own A i acc q env R H S Za vs) (th : ∀ a, Z1 a → ∃ o, H1 a = some o) : ∀ a, OneA A (TwoA Z1 Za) a → ∃ o, H a = some o := by
  intro a h
  rcases h with rfl | h | h
  · exact ⟨_, c.at_⟩
  · rw [c.zk a h]; exact th a h
  · exact c.rep.there a h
/-- a step in the block that leaves the list alone -/
theorem Cst.step {A : Addr} {i : Nat} {acc : List T} {Za Z2 : ASet} {vs : List V} {q2 : Bool} (c : Cst K σ P R1 H1 S1 Z1 own A i acc q env R H S Za vs) (th : ∀ a, Z1 a → ∃ o, H1 a = some o)
    (sr2 : SR K env2 (wipe σ own) R2 P H2 S2) (f : Fr R H S R2 H2 (TwoA S2 Z2)) (hq : q2 = true → q = true ∧ Sub H H2 ∧ ∀ a, R2 a ≠ none → R a ≠ none ∨ H a = none) :
    Cst K σ P R1 H1 S1 Z1 own A i acc q2 env2 R2 H2 S2 Za vs ∧ Apart (OneA A (TwoA Z1 Za)) Z2 := by
  obtain ⟨k1, k2, k3⟩ := f.beside (c.there th) c.ap fun a h => (c.zr a h).1
  have g : Fr R H (TwoA S (OneA A Za)) R2 H2 (TwoA S2 Z2) := f.widen fun a h => .inl h
  have fr := c.fr.trans g
  refine ⟨⟨sr2, c.s1.trans f.rr, (k1 A (.inl rfl)).trans c.at_, c.rep.mono f.rr fun a h => k1 a (.inr (.inr h)), c.le, fun a h => (k1 a (.inr (.inl h))).trans (c.zk a h), fun a h z => k3 a h (.inl z), fun a h => ⟨k2 a h, (c.zr a h).2⟩, c.n1, c.n2, c.n3, ⟨fr.keep, fr.rr, fr.nw, fun a h => ?_⟩, fun e => ?_⟩, fun a h z => k3 a h (.inr z)⟩
  · rcases h with h | h
    · exact fr.sub a (.inl h)
    · exact c.fr.sub a (.inr h)
  · obtain ⟨e1, e2, e3⟩ := hq e
    obtain ⟨a1, a2, a3⟩ := c.qt e1
    refine ⟨a1.trans e2, fun a h => ?_, a3⟩
    rcases e3 a h with z | z
    · exact a2 a z
    · rcases none_or (H := H1) a with y | ⟨o, y⟩
      · exact .inr y
      · rw [a1 a o y] at z; cases z
theorem eComp_imp (lo : ∀ i ∈ own, i < σ.length) (cov : ∀ j, j < σ.length → j ∈ own ∨ j ∈ B) {Q : VK} (h : rdE K W (eComp fi gt fc fe own) σ H Q) : tLc (rdI K W fi) (rdG K B gt) (rdT K W0 fc) (rdE K W0 fe) own σ H Q := by
  obtain ⟨env, R, P, S, r, sr, hr, post⟩ := h
  unfold eComp at hr
  cases hf : fi env with
  | none => rw [hf] at hr; cases hr
  | some ri =>
    rw [hf] at hr
    refine ⟨env, R, P, S, ri, sr, hf, ?_⟩
    cases ri with
    | x ex e => cases hr; exact post
    | ok q ds e =>
      simp only at hr
      split at hr
      · rename_i hc
        rw [Bool.and_eq_true, Bool.and_eq_true, List.all_eq_true] at hc
        obtain ⟨⟨hc1, hc2⟩, hc3⟩ := hc
        have dl := of_decide_eq_true hc1
        have nd := of_decide_eq_true hc2
        cases hcf : compF gt fc fe own ds [] true (wipeE e own) with
        | none => rw [hcf] at hr; cases hr
        | some rc =>
          rw [hcf] at hr
          cases rc with
          | x ex e2 => cases hr
          | ok q2 p e2 =>
            cases hr
            intro J R1 H1 S1 Z1 st th J_ok A hA
            have mA : R1 A = none := st.sr.rh.no hA
            have pA : P A = none := st.sr.ph.no hA
            have nA : ∀ (X : ASet), (∀ a, X a → ∃ o, H1 a = some o) → ¬ X A := fun X k z => by
              obtain ⟨o, e⟩ := k A z
              rw [hA] at e; cases e
            let Wst : Nat → Hp → Prop := fun i H' => i ≤ ds.length ∧ ∃ acc q' env' R' S' Za vs, Cst K σ P R1 H1 S1 Z1 own A i acc q' env' R' H' S' Za vs ∧ compF gt fc fe own (ds.drop i) acc q' env' = some (.ok q2 p e2)
            have start : Wst 0 (upd H1 A (.lst [])) := by
              obtain ⟨S0, r0, s0⟩ := st.sr.sl.wipes own
              have up : Sub H1 (upd H1 A (.lst [])) := Sub.upd hA
              have r0' : RepSl K R1 P (upd H1 A (.lst [])) (wipeE e own) (wipe σ own) S0 := r0.mono (Sub.refl R1) fun a h => by
                obtain ⟨o, e⟩ := r0.there a h
                rw [e]; exact up a o e
              have nS : ¬ S1 A := nA S1 st.sr.sl.there
              have nZ : ¬ Z1 A := nA Z1 th
              refine ⟨Nat.zero_le _, [], true, _, R1, S0, NoA, [], ⟨⟨r0', st.sr.rh.trans up, st.sr.ph.trans up, fun a h => st.sr.sf a (s0 a h)⟩, Sub.refl R1, upd_same, .nil, Nat.le_refl _, fun a h => ?_, fun a h k => ?_, fun a h => ?_, id, fun _ _ h => h.elim, nZ, ⟨fun a o h _ => up a o h, Sub.refl R1, fun _ h => .inl h, fun a h => ?_⟩, fun _ => ⟨up, fun _ h => .inl h, fun _ h => h.elim⟩⟩, hcf⟩
              · obtain ⟨o, e⟩ := th a h
                rw [e]; exact up a o e
              · rcases h with rfl | h | h
                · exact nS (s0 _ k)
                · exact st.ap a h (s0 a k)
                · exact h.elim
              · rcases h with rfl | h | h
                · exact ⟨mA, pA⟩
                · exact st.zf a h
                · exact h.elim
              · rcases h with h | rfl | h
                · exact .inl (s0 a h)
                · exact .inr hA
                · exact h.elim
            refine ⟨fun i m H' => m = ds.length - i ∧ Wst i H', ⟨ds.length, by simp, start⟩, ?_⟩
            rintro i m H' ⟨rfl, hi, acc, q', env', R', S', Za, vs, c, hl⟩
            by_cases hlt : i < ds.length
            · refine .inr ⟨J_ok.go i R' H' c.s1 c.sr.rh c.sr.ph c.zk hlt, Wst (i + 1), fun H3 w => ⟨ds.length - (i + 1), by omega, rfl, w⟩, fun x H2 y => ?_⟩
              have hd : ds[i]? = some ds[i] := by simp [hlt]
              obtain ⟨R2, pf, dx⟩ := J_ok.yld i R' H' x H2 _ c.s1 c.sr.rh c.sr.ph c.zk hd y
              rw [List.drop_eq_getElem_cons hlt] at hl
              unfold compF at hl
              have srY := (c.sr.pure pf).1
              have fY : Fr R' H' S' R2 H2 (TwoA S' NoA) := by rw [two_no]; exact Fr.quiet pf
              have cY := (c.step (q2 := q') th srY fY fun e => ⟨e, pf.hh, pf.nw⟩).1
              cases hg : gt (.dat ds[i]) env' with
              | none => rw [hg] at hl; cases hl
              | some e1 =>
                rw [hg] at hl
                simp only at hl
                refine ⟨.dat ds[i], env', R2, P, S', NoA, e1, srY, .dat dx, noA_apart, fun _ z => z.elim, hg, fun σ2 S2 srT sub fx => ?_⟩
                have ew := wipe_same fx cov
                refine ⟨ew, ?_⟩
                cases hfc : fc e1 with
                | none => rw [hfc] at hl; cases hl
                | some rfc =>
                  rw [hfc] at hl
                  cases rfc with
                  | x ex e3 => cases hl
                  | ok q3 p3 e3 =>
                    simp only at hl
                    cases hb : pB p3 with
                    | none => rw [hb] at hl; cases hl
                    | some b =>
                      rw [hb] at hl
                      refine ⟨e1, R2, P, S2, _, srT, hfc, b, hb, fun v3 R3 H3 S3 Z3 st3 rv3 => ?_⟩
                      have subS : ∀ a, S2 a → S' a := fun a h => (sub a h).elim id False.elim
                      -- from the turn's start to behind a further step, its slots wiped
                      have onto : ∀ {e4 : List T} {R4 H4 : Hp} {S4 Z4 : ASet} {q4 : Bool}, Stp K σ2 P e1 R2 H2 S2 q4 e4 R4 H4 S4 Z4 → ∃ S5, Cst K σ P R1 H1 S1 Z1 own A i acc (q' && q4) (wipeE e4 own) R4 H4 S5 Za vs ∧ Apart (OneA A (TwoA Z1 Za)) Z4 ∧ ∀ a, S5 a → S4 a := by
                        intro e4 R4 H4 S4 Z4 q4 s4
                        obtain ⟨S5, r5, s5⟩ := s4.sr.sl.wipes own
                        rw [ew] at r5
                        have f5 : Fr R2 H2 S' R4 H4 (TwoA S5 Z4) := (s4.fr.widen subS).narrow fun a h => h.imp_left (s5 a)
                        obtain ⟨a, b⟩ := cY.step (q2 := q' && q4) th ⟨r5, s4.sr.rh, s4.sr.ph, fun a h => s4.sr.sf a (s5 a h)⟩ f5 fun e => by
                          obtain ⟨e1, e2⟩ := Bool.and_eq_true_iff.mp e
                          obtain ⟨_, hh, _⟩ := s4.qt e2
                          exact ⟨e1, hh, s4.strict e2⟩
                        exact ⟨S5, a, b, s5⟩
                      cases b with
                      | false =>
                        simp only at hl
                        show Wst (i + 1) H3
                        obtain ⟨S5, c5, _, _⟩ := onto st3
                        exact ⟨hlt, acc, q' && q3, _, R3, S5, Za, vs, { c5 with le := Nat.le_succ_of_le c5.le }, hl⟩
                      | true =>
                        simp only at hl
                        show rdE K W0 fe σ2 H3 _
                        cases hfe : fe e3 with
                        | none => rw [hfe] at hl; cases hl
                        | some rfe =>
                          rw [hfe] at hl
                          cases rfe with
                          | x ex e4 => cases hl
                          | ok q4 p4 e4 =>
                            simp only at hl
                            cases hk : keep p4 with
                            | none => rw [hk] at hl; cases hl
                            | some t =>
                              rw [hk] at hl
                              simp only at hl
                              refine ⟨e3, R3, P, S3, _, st3.sr, hfe, fun y R4 H4 S4 Z4 st4 rv4 => ?_⟩
                              obtain ⟨S5, c5, ap5, sub5⟩ := onto (st3.next st4)
                              have rt := keep_rep rv4 hk
                              refine ⟨vs, c5.at_, by have := c5.le; omega, hlt, acc ++ [t], q' && q3 && q4, wipeE e4 own, R4, S5, TwoA Za Z4, vs ++ [y], ?_, hl⟩
                              have nZ4 : ¬ Z4 A := fun z => ap5 A (.inl rfl) z
                              have nS5 : ¬ S5 A := fun z => c5.ap A (.inl rfl) z
                              have nR4 : R4 A = none := (c5.zr A (.inl rfl)).1
                              have up : ∀ a o, a ≠ A → H4 a = some o → upd H4 A (.lst (vs ++ [y])) a = some o := fun a o n h => by rw [upd_ne n]; exact h
                              have ne : ∀ {X : ASet}, ¬ X A → ∀ a, X a → upd H4 A (.lst (vs ++ [y])) a = H4 a := fun {X} n a h => upd_ne fun e => n (e ▸ h)
                              have rs : ∀ {X : Hp}, X A = none → RSub X H4 → RSub X (upd H4 A (.lst (vs ++ [y]))) := fun {X} n s a o h => by
                                have na : a ≠ A := fun e => by rw [e, n] at h; cases h
                                rcases s a o h with e | ⟨d, ob, e⟩
                                · exact .inl (up a o na e)
                                · exact .inr ⟨d, ob, up a _ na e⟩
                              have qe : (q' && q3 && q4) = (q' && (q3 && q4)) := Bool.and_assoc _ _ _
                              refine ⟨⟨c5.sr.sl.mono (Sub.refl R4) (ne nS5), rs nR4 c5.sr.rh, rs (c5.zr A (.inl rfl)).2 c5.sr.ph, c5.sr.sf⟩, c5.s1, upd_same, ?_, by rw [List.length_append]; exact Nat.succ_le_succ c5.le, fun a h => (ne c5.n3 a h).trans (c5.zk a h), fun a h k => ?_, fun a h => ?_, fun z => z.elim c5.n1 nZ4, fun a h k => k.elim (c5.n2 a h) fun z => ap5 a (.inr (.inl h)) z, c5.n3, ⟨fun a o h n => ?_, c5.fr.rr, c5.fr.nw, fun a h => ?_⟩, fun e => ?_⟩
                              · exact RepAll.snoc (c5.rep.mono (Sub.refl R4) (ne c5.n1)) (rt.mono (Sub.refl R4) (ne nZ4)) fun a h k => ap5 a (.inr (.inr h)) k
                              · rcases h with h | h | h | h
                                · exact c5.ap a (.inl h) k
                                · exact c5.ap a (.inr (.inl h)) k
                                · exact c5.ap a (.inr (.inr h)) k
                                · exact st4.ap a h (sub5 a k)
                              · rcases h with h | h | h | h
                                · exact c5.zr a (.inl h)
                                · exact c5.zr a (.inr (.inl h))
                                · exact c5.zr a (.inr (.inr h))
                                · exact st4.zf a h
                              · exact up a o (fun e => by rw [e, hA] at h; cases h) (c5.fr.keep a o h n)
                              · rcases h with h | h | h | h
                                · exact c5.fr.sub a (.inl h)
                                · exact c5.fr.sub a (.inr (.inl h))
                                · exact c5.fr.sub a (.inr (.inr h))
                                · have f2 := cY.fr.trans (((st3.next st4).fr.widen subS).widen fun a h => .inl h)
                                  exact f2.sub a (.inr h)
                              · rw [qe] at e
                                obtain ⟨a1, a2, a3⟩ := c5.qt e
                                refine ⟨fun a o h => up a o (fun e => by rw [e, hA] at h; cases h) (a1 a o h), a2, fun a h => h.elim (a3 a) fun z => ?_⟩
                                obtain ⟨e1, e2⟩ := Bool.and_eq_true_iff.mp e
                                obtain ⟨_, _, _, fz⟩ := (st3.next st4).qt e2
                                have := fz a z
                                obtain ⟨b1, _, _⟩ := cY.qt e1
                                rcases none_or (H := H1) a with w | ⟨o, w⟩
                                · exact w
                                · rw [b1 a o w] at this; cases this
            · have ei : i = ds.length := by omega
              subst ei
              rw [List.drop_length] at hl
              unfold compF at hl
              cases hl
              refine .inl ⟨J_ok.stop R' H' c.s1 c.sr.rh c.sr.ph c.zk, ?_⟩
              have rep : Rep K R' H' (.lst acc) (.ref A) (OneA A Za) := .lst c.at_ c.rep c.n1
              have apz : ∀ a, OneA A Za a → OneA A (TwoA Z1 Za) a := fun a h => h.imp_right .inr
              cases q2 with
              | true =>
                obtain ⟨a1, a2, a3⟩ := c.qt rfl
                have pf : PF R1 H1 R' H' (OneA A Za) := ⟨a1, c.s1, c.sr.rh, a2, fun a h => ⟨h.elim (fun e => e ▸ hA) (a3 a), (c.zr a (apz a h)).1⟩⟩
                exact post (.ref A) R' H' S1 (OneA A Za) (st.next (st.sr.step pf)) rep
              | false =>
                obtain ⟨S5, r5, s5⟩ := RepSl.rests (e0 := e) c.sr.sl nd fun i hi => ⟨lo i hi, by
                  have hc := hc3 i hi
                  cases he : e.getD i .un with
                  | un => exact .inl rfl
                  | dat d =>
                    rw [List.getD_eq_getElem?_getD] at he
                    cases hg : e[i]? with
                    | none => rw [hg] at he; cases he
                    | some t =>
                      rw [hg] at he
                      cases he
                      rcases st.sr.sl.get hg with z | ⟨v, S2, z1, z2, z3⟩
                      · cases z
                      · cases z2 with
                        | own z2 => cases z2 with
                          | dat z2 => exact .inr ⟨d, v, rfl, z1, z2.mono fun a o h => c.s1 a o h⟩
                  | _ => rw [he] at hc; cases hc⟩
                have stf : Stp K σ P e R1 H1 S1 false (restE e e2 own) R' H' S5 (OneA A Za) :=
                  ⟨⟨r5, c.sr.rh, c.sr.ph, fun a h => c.sr.sf a (s5 a h)⟩, fun a h k => c.ap a (apz a h) (s5 a k), fun a h => c.zr a (apz a h), c.fr.narrow fun a h => h.imp_left (s5 a), fun e => nomatch e⟩
                exact post (.ref A) R' H' S5 (OneA A Za) (st.next stf) rep
      · cases hr
end
end VS

set_option Elab.async false
set_option linter.all false
set_option maxRecDepth 100000
/-! Value semantics, 12: comprehensions as expressions, built-ins by values, displays, items, slices. -/
namespace VS
open PySem PySem.Spec PyProof.Rows L2

theorem PE.impL {X : Cx} {e : Expr} {t t' : TE} (h : PE X e t) (k : ∀ σ H Q, σ.length = X.N.length → t' σ H Q → t σ H Q) : PE X e t' := ⟨fun pins s σ H Q I q => h.run pins s σ H Q I (k σ H Q I.len q)⟩
theorem PS.impL {X : Cx} {e : Stmt} {t t' : TS} (h : PS X e t) (k : ∀ σ H Q, σ.length = X.N.length → t' Q σ H → t Q σ H) : PS X e t' := ⟨fun pins s σ H Q I q => h.run pins s σ H Q I (k σ H Q I.len q)⟩
theorem PTs.imp {X : Cx} {e : List Expr} {t t' : TT} (h : PTs X e t) (k : ∀ σ H Q, t' σ H Q → t σ H Q) : PTs X e t' := ⟨fun pins s σ H Q I q => h.run pins s σ H Q I (k σ H Q q)⟩
abbrev CJ (X : Cx) (W : WX) (ifs : List Expr) (f : Es) : Prop := PTs X ifs (rdT X.K W f)
theorem cj_nil {X : Cx} {W : WX} : CJ X W [] cYes := PTs.imp pts_nil fun σ H Q h => by
  obtain ⟨env, R, P, S, r, sr, hr, post⟩ := h
  cases hr
  obtain ⟨b, e, post⟩ := post
  cases e
  exact post (.bl true) R H S NoA sr.stp pvr_bl
theorem cj_one {X : Cx} {W : WX} {c : Expr} {f : Es} (h : TJ X W c f) : CJ X W [c] f := pts_one h
theorem own_lt {N : List Str} {sc scope : Scope} {own : List (Str × Nat)} (ok : BlkOk N sc scope own) : ∀ i ∈ own.map (·.2), i < N.length := by
  intro i hi
  obtain ⟨p, hp, rfl⟩ := List.mem_map.mp hi
  exact (List.getElem?_eq_some_iff.mp (ok.ix p hp)).1
section
variable {X : Cx} {W : WX} {B : List Nat} {elt tg iter : Expr} {ifs : List Expr} {scope : Scope} {own : List (Str × Nat)} {pos : Pos} {fi : Is} {gt : Gs} {fc fe : Es}
theorem ej_comp (hc : X.calm = true) (hN : X.N.Nodup) (cov : ∀ j, j < X.N.length → j ∈ own.map (·.2) ∨ j ∈ B) (hi : IJ X W tg iter fi) (ok : BlkOk X.N X.env.scope scope own)
    (hg : ∀ (s : Shared) (H : Hp) (C : Addr) (cl : List (Str × Addr)) (fp : List Addr), GJ (X.blk s H scope (compEnvC scope cl C X.env) fp) B tg gt) (ht : ∀ (s : Shared) (H : Hp) (C : Addr) (cl : List (Str × Addr)) (fp : List Addr), CJ (X.blk s H scope (compEnvC scope cl C X.env) fp) W0 ifs fc)
    (he : ∀ (s : Shared) (H : Hp) (C : Addr) (cl : List (Str × Addr)) (fp : List Addr), EJ (X.blk s H scope (compEnvC scope cl C X.env) fp) W0 elt fe) (hs : ∀ x, foldedSetIterable iter X.env x = pure x := by intro _; rfl) :
    EJ X W (.ListComp elt [⟨tg, iter, ifs, 0⟩] scope pos) (eComp fi gt fc fe (own.map (·.2))) :=
  PE.impL (pe_lc hc hN hi ok hg ht he hs) fun σ H Q l h => eComp_imp (fun i hi => by rw [l]; exact own_lt ok i hi) (fun j hj => cov j (by rw [← l]; exact hj)) h
theorem sj_comp {i : Nat} {y : Str} {py : Pos} {spos : Pos} {B' : List Nat} (hc : X.calm = true) (hN : X.N.Nodup) (hb : i ∉ B') (hy : X.N[i]? = some y) (hyl : X.env.scope.names.lookup y = some .local)
    (hsw : swapsWith (.ListComp elt [⟨tg, iter, ifs, 0⟩] scope pos) (some (.Name y py)) spos.line X.env = pure true) (cov : ∀ j, j < X.N.length → j ∈ own.map (·.2) ∨ j ∈ B) (hi : IJ X W tg iter fi) (ok : BlkOk X.N X.env.scope scope own)
    (hg : ∀ (s : Shared) (H : Hp) (C : Addr) (cl : List (Str × Addr)) (fp : List Addr), GJ (X.blk s H scope (compEnvC scope cl C X.env) fp) B tg gt) (ht : ∀ (s : Shared) (H : Hp) (C : Addr) (cl : List (Str × Addr)) (fp : List Addr), CJ (X.blk s H scope (compEnvC scope cl C X.env) fp) W0 ifs fc)
    (he : ∀ (s : Shared) (H : Hp) (C : Addr) (cl : List (Str × Addr)) (fp : List Addr), EJ (X.blk s H scope (compEnvC scope cl C X.env) fp) W0 elt fe) (hs : ∀ x, foldedSetIterable iter X.env x = pure x := by intro _; rfl) :
    SJ X W B' (.Assign [.Name y py] (.ListComp elt [⟨tg, iter, ifs, 0⟩] scope pos) spos) (sSet i (eComp fi gt fc fe (own.map (·.2)))) :=
  PS.impL (ps_setLc hc hN hy hyl hsw hi ok hg ht he hs) fun σ H D l h => eComp_imp (fun i hi => by rw [l]; exact own_lt ok i hi) (fun j hj => cov j (by rw [← l]; exact hj)) (sSet_imp hb h)
end

/-! ### built-ins by values -/
def valsA : List Ar → Option (List PV)
  | [] => some []
  | .v p :: l => (valsA l).map (p :: ·)
  | .m _ :: _ => none
inductive PvsR (K : PySem.W.Frag) (R P H : Hp) (S : ASet) : List PV → List V → ASet → Prop
  | nil : PvsR K R P H S [] [] NoA
  | cons {p : PV} {v : V} {ps : List PV} {vs : List V} {Z Z' : ASet} : PvR K R P H S p v Z → PvsR K R P H S ps vs Z' → Apart Z Z' → PvsR K R P H S (p :: ps) (v :: vs) (TwoA Z Z')
theorem valsA_rep {K : PySem.W.Frag} {R P H : Hp} {S : ASet} {σ : L2.St} : ∀ {l : List Ar} {vs : List V} {Z : ASet} {ps : List PV}, ArsR K R P H S σ l vs Z → valsA l = some ps → PvsR K R P H S ps vs Z
  | _, _, _, _, .nil, e => by cases e; exact .nil
  | .v p :: l, _, _, _, .cons a b n, e => by
    unfold valsA at e
    cases h : valsA l with
    | none => rw [h] at e; cases e
    | some ps =>
      rw [h] at e; cases e
      exact .cons a (valsA_rep b h) n
  | .m i :: l, _, _, _, .cons a b n, e => by cases e
def eB (op : List PV → Option PV) (g : As) : Es := fun env => match g env with
  | some (.ok q l e) => ((valsA l).bind op).map fun p => .ok q p e
  | some (.x ex e) => some (.x ex e)
  | none => none
def rB (K : PySem.W.Frag) (op : List PV → Option PV) : List V → Hp → VK → Prop := fun vs H Q => ∃ R P S ps Z p, RSub R H ∧ RSub P H ∧ PvsR K R P H S ps vs Z ∧ op ps = some p ∧ ∀ z R' H' Z', PF R H R' H' Z' → PvR K R' P H' S p z Z' → Q z H'
theorem eB_imp {K : PySem.W.Frag} {W : WX} {op : List PV → Option PV} {g : As} {σ : L2.St} {H : Hp} {Q : VK} (h : rdE K W (eB op g) σ H Q) : tCB (rB K op) (rdA K W g) σ H Q := by
  obtain ⟨env, R, P, S, r, sr, hr, post⟩ := h
  unfold eB at hr
  cases hg : g env with
  | none => rw [hg] at hr; cases hr
  | some rg =>
    rw [hg] at hr
    refine ⟨env, R, P, S, rg, sr, hg, ?_⟩
    cases rg with
    | x ex e => cases hr; exact post
    | ok q l e =>
      simp only at hr
      cases hv : valsA l with
      | none => rw [hv] at hr; cases hr
      | some ps =>
        rw [hv] at hr
        simp only [Option.bind_some] at hr
        cases ho : op ps with
        | none => rw [ho] at hr; cases hr
        | some p =>
          rw [ho] at hr; cases hr
          intro vs R' H' S' Z st as
          refine ⟨R', P, S', ps, Z, p, st.sr.rh, st.sr.ph, valsA_rep as hv, ho, fun z R2 H2 Z2 pf pz => ?_⟩
          have t := st.next (st.sr.step pf)
          rw [Bool.and_true] at t
          exact post z R2 H2 S' Z2 t pz
abbrev CallK (X : Cx) (f : Value) (op : List PV → Option PV) : Prop := CallR X f (rB X.K op)
theorem CallR.imp {X : Cx} {f : Value} {r r' : List V → Hp → VK → Prop} (h : CallR X f r) (k : ∀ vs H Q, r' vs H Q → r vs H Q) : CallR X f r' := fun pins s σ H xs us Q I rv q => h pins s σ H xs us Q I rv (k xs H Q q)
theorem CallR.or {X : Cx} {f : Value} {r r' : List V → Hp → VK → Prop} (h : CallR X f r) (h' : CallR X f r') : CallR X f (fun vs H Q => r vs H Q ∨ r' vs H Q) := fun pins s σ H xs us Q I rv q => q.elim (h pins s σ H xs us Q I rv) (h' pins s σ H xs us Q I rv)
section
variable {X : Cx} {W : WX} {e : Expr} {es : List Expr} {g : As} {op : List PV → Option PV} {id ty : String} {x : Str} {p pos : Pos}
theorem ej_callB (hc : CallK X (.builtin id) op) (hg : Gl X x) (hm : X.mg x = none) (hv : bootBuiltins x = some (.builtin id)) (ha : AJ X W (e :: es) g) (hn : x ≠ "__name__" := by decide) (hdb : (x == ("__debug__" : Str)) = false := by decide)
    (he : starEach (e :: es) X.env = (false, eval e X.env) :: starEach es X.env := by rfl) (hpl : (backTo pos (starEach es X.env)).any (·.1) = false := by rfl) : EJ X W (.Call (.Name x p) (e :: es) [] pos) (eB op g) :=
  PE.imp (pe_callB hc hg hm hv ha hn hdb he hpl) fun _ _ _ h => eB_imp h
theorem ej_callTy (hc : CallK X (.type ty) op) (hg : Gl X x) (hm : X.mg x = none) (hv : bootBuiltins x = some (.type ty)) (ha : AJ X W (e :: es) g) (hn : x ≠ "__name__" := by decide) (hdb : (x == ("__debug__" : Str)) = false := by decide)
    (he : starEach (e :: es) X.env = (false, eval e X.env) :: starEach es X.env := by rfl) (hpl : (backTo pos (starEach es X.env)).any (·.1) = false := by rfl) : EJ X W (.Call (.Name x p) (e :: es) [] pos) (eB op g) :=
  PE.imp (pe_callTy hc hg hm hv ha hn hdb he hpl) fun _ _ _ h => eB_imp h
end

/-! ### displays -/
/-- the trees of fresh values -/
def keeps : List Ar → Option (List T)
  | [] => some []
  | .v (.fr t) :: l => (keeps l).map (t :: ·)
  | _ => none
/-- a tuple of trees: data if they all are -/
def mkTup (ts : List T) : T := match allDat ts with
  | some ds => .dat (.tuple ds)
  | none => .tup ts
def eDisp (mk : List T → T) (g : As) : Es := fun env => match g env with
  | some (.ok q l e) => match keeps l with
    | some ts => if ts.length ≤ sizeLine then some (.ok q (.fr (mk ts)) e) else none
    | none => none
  | some (.x ex e) => some (.x ex e)
  | none => none
theorem keeps_rep {K : PySem.W.Frag} {R P H : Hp} {S : ASet} {σ : L2.St} : ∀ {l : List Ar} {vs : List V} {Z : ASet} {ts : List T}, ArsR K R P H S σ l vs Z → keeps l = some ts → RepAll K R H ts vs Z
  | _, _, _, _, .nil, e => by cases e; exact .nil
  | .v (.fr t) :: l, _, _, _, .cons a b n, e => by
    unfold keeps at e
    cases h : keeps l with
    | none => rw [h] at e; cases e
    | some ts =>
      rw [h] at e; cases e
      exact .cons a (keeps_rep b h) n
  | .v (.vw t) :: l, _, _, _, .cons a b n, e => by cases e
  | .v (.pv t) :: l, _, _, _, .cons a b n, e => by cases e
  | .m i :: l, _, _, _, .cons a b n, e => by cases e
theorem allDat_no {K : PySem.W.Frag} {R H : Hp} : ∀ {ts : List T} {vs : List V} {S : ASet} {ds : List D}, RepAll K R H ts vs S → allDat ts = some ds → ∀ a, ¬ S a
  | _, _, _, _, .nil, _ => fun _ h => h
  | _, _, _, _, .cons a b _, e => by
    cases a with
    | dat h =>
      rw [allDat] at e
      cases q : allDat _ with
      | none => rw [q] at e; cases e
      | some ds => exact fun x z => z.elim id (allDat_no b q x)
    | _ => simp [allDat] at e
section
variable {K : PySem.W.Frag} {W : WX} {g : As} {σ : L2.St} {P R H R' H' : Hp} {S S' Z : ASet} {env env' : List T} {q : Bool} {Q : VK}
/-- a new object around values of one's own -/
theorem Stp.wrapO (st : Stp K σ P env R H S q env' R' H' S' Z) (th : ∀ a, Z a → ∃ o, H' a = some o) {p : Addr} {o : HO} (hp : H' p = none) : Stp K σ P env R H S q env' R' (upd H' p o) S' (OneA p Z) := by
  have s2 := st.sr.step (PF.own st.sr.rh (o := o) hp)
  obtain ⟨z, _⟩ := st.both th s2
  rw [Bool.and_true] at z
  have e : TwoA Z (OneA p NoA) = OneA p Z := funext fun a => propext ⟨fun h => h.elim .inr fun h => h.elim .inl False.elim, fun h => h.elim (fun h => .inr (.inl h)) .inl⟩
  rw [e] at z
  exact z
theorem Stp.wrapR (st : Stp K σ P env R H S q env' R' H' S' Z) (th : ∀ a, Z a → ∃ o, H' a = some o) {p : Addr} {o : HO} (hp : H' p = none) : Stp K σ P env R H S q env' (upd R' p o) (upd H' p o) S' Z := by
  have s2 := st.sr.step (PF.reg st.sr.rh (o := o) hp)
  obtain ⟨z, _⟩ := st.both th s2
  rw [Bool.and_true, two_no] at z
  exact z
theorem eLst_imp (h : rdE K W (eDisp .lst g) σ H Q) : tLst (rdA K W g) σ H Q := by
  obtain ⟨env, R, P, S, r, sr, hr, post⟩ := h
  unfold eDisp at hr
  cases hg : g env with
  | none => rw [hg] at hr; cases hr
  | some rg =>
    rw [hg] at hr
    refine ⟨env, R, P, S, rg, sr, hg, ?_⟩
    cases rg with
    | x ex e => cases hr; exact post
    | ok q l e =>
      simp only at hr
      cases hk : keeps l with
      | none => rw [hk] at hr; cases hr
      | some ts =>
        rw [hk] at hr
        simp only at hr
        split at hr
        · rename_i hz
          cases hr
          intro vs R' H' S' Z st as
          have ra := keeps_rep as hk
          refine ⟨by rw [ra.len]; exact hz, fun p hp => ?_⟩
          have nz : ¬ Z p := fun z => by
            obtain ⟨o, e⟩ := ra.there p z
            rw [hp] at e; cases e
          exact post (.ref p) R' _ S' _ (st.wrapO ra.there hp) (.lst upd_same (ra.mono (Sub.refl R') fun a h => upd_ne fun e => nz (e ▸ h)) nz)
        · cases hr
theorem eTup_imp (h : rdE K W (eDisp mkTup g) σ H Q) : tTup (rdA K W g) σ H Q := by
  obtain ⟨env, R, P, S, r, sr, hr, post⟩ := h
  unfold eDisp at hr
  cases hg : g env with
  | none => rw [hg] at hr; cases hr
  | some rg =>
    rw [hg] at hr
    refine ⟨env, R, P, S, rg, sr, hg, ?_⟩
    cases rg with
    | x ex e => cases hr; exact post
    | ok q l e =>
      simp only at hr
      cases hk : keeps l with
      | none => rw [hk] at hr; cases hr
      | some ts =>
        rw [hk] at hr
        simp only at hr
        split at hr
        · rename_i hz
          cases hr
          intro vs R' H' S' Z st as
          have ra := keeps_rep as hk
          refine ⟨by rw [ra.len]; exact hz, fun p hp => ?_⟩
          have nz : ¬ Z p := fun z => by
            obtain ⟨o, e⟩ := ra.there p z
            rw [hp] at e; cases e
          have nR : R' p = none := st.sr.rh.no hp
          have up : Sub R' (upd R' p (.tup vs)) := Sub.upd nR
          have st2 := st.wrapR ra.there (o := .tup vs) hp
          cases hd : allDat ts with
          | none =>
            have r2 : Rep K (upd R' p (.tup vs)) (upd H' p (.tup vs)) (mkTup ts) (.ref p) Z := by
              unfold mkTup
              rw [hd]
              exact .tup upd_same (ra.mono up fun a h => upd_ne fun e => nz (e ▸ h))
            exact post (.ref p) _ _ S' Z st2 r2
          | some ds =>
            have r2 : Rep K (upd R' p (.tup vs)) (upd H' p (.tup vs)) (mkTup ts) (.ref p) NoA := by
              unfold mkTup
              rw [hd]
              exact .dat (.tup upd_same ((allDat_rep ra hd).1.mono fun a o h => up a o h))
            exact post (.ref p) _ _ S' NoA (st2.drop fun _ h => h.elim) r2
        · cases hr
end
section
variable {X : Cx} {W : WX} {es : List Expr} {g : As} {pos : Pos}
theorem ej_lst (h : AJ X W es g) : EJ X W (.List es pos) (eDisp .lst g) := PE.imp (pe_lst h) fun _ _ _ h => eLst_imp h
theorem ej_tup {k} (h : AJ X W es g) : EJ X W (.Tuple es k pos) (eDisp mkTup g) := PE.imp (pe_tup h) fun _ _ _ h => eTup_imp h
end

/-! ### items -/
def datV : T → Option PV
  | .dat d => some (.fr (.dat d))
  | .fn a => some (.fr (.fn a))
  | .exc a => some (.fr (.exc a))
  | _ => none
def subT (a : PV) (t : T) : Option PV := match a with
  | .fr _ => datV t
  | .vw _ => mkV t
  | .pv _ => mkV (.vw t)
def opIx (a b : PV) : Option PV := match pD b with
  | some (.int i) => match a.tr with
    | .dat (.list ds) => (atI ds i).map fun d => vDat d
    | .dat (.tuple ds) => (atI ds i).map fun d => vDat d
    | .dat (.str x) => if x.length ≤ sizeLine then (atI x.cps.toList i).map fun c => vStr ⟨#[c]⟩ else none
    | .lst ts => (atI ts i).bind (subT a)
    | .tup ts => (atI ts i).bind (subT a)
    | _ => none
  | _ => none
theorem atI_map {α β : Type} (f : List α → List β → Prop) {xs : List α} {ys : List β} (hl : xs.length = ys.length) {i : Int} {y : β} (h : atI ys i = some y) : ∃ (j : Nat) (hx : j < xs.length), atI xs i = some xs[j] ∧ ys[j]? = some y := by
  unfold atI at *
  rw [← hl] at h
  cases e : ixN xs.length i with
  | none => rw [e] at h; cases h
  | some j =>
    rw [e] at h
    have hj : ys[j]? = some y := h
    have lt : j < xs.length := by rw [hl]; exact (List.getElem?_eq_some_iff.mp hj).1
    exact ⟨j, lt, by simp [lt], hj⟩
theorem DatAll.at_ {M : Rdr} {vs : List V} {ds : List D} {i : Int} {d : D} (h : DatAll M vs ds) (e : atI ds i = some d) : ∃ v, atI vs i = some v ∧ Dat M v d := by
  obtain ⟨j, lt, e1, e2⟩ := atI_map (fun _ _ => True) h.length e
  obtain ⟨v, h1, h2⟩ := h.get e2
  rw [List.getElem?_eq_getElem lt] at h1
  cases h1
  exact ⟨_, e1, h2⟩
theorem RepAll.get {K : PySem.W.Frag} {R H : Hp} : ∀ {ts : List T} {vs : List V} {S : ASet} {i : Nat} {t : T}, RepAll K R H ts vs S → ts[i]? = some t → ∃ v S1, vs[i]? = some v ∧ Rep K R H t v S1 ∧ ∀ a, S1 a → S a
  | _, _, _, _, _, .nil, e => by simp at e
  | _, _, _, 0, _, .cons a b _, e => by simp at e; subst e; exact ⟨_, _, rfl, a, fun _ h => .inl h⟩
  | _, _, _, i + 1, _, .cons a b _, e => by
    obtain ⟨v, S1, h1, h2, h3⟩ := RepAll.get (i := i) b (by simpa using e)
    exact ⟨v, S1, by simpa using h1, h2, fun a h => .inr (h3 a h)⟩
theorem RepAll.at_ {K : PySem.W.Frag} {R H : Hp} {ts : List T} {vs : List V} {S : ASet} {i : Int} {t : T} (h : RepAll K R H ts vs S) (e : atI ts i = some t) : ∃ v S1, atI vs i = some v ∧ Rep K R H t v S1 ∧ ∀ a, S1 a → S a := by
  obtain ⟨j, lt, e1, e2⟩ := atI_map (fun _ _ => True) h.len e
  obtain ⟨v, S1, h1, h2, h3⟩ := h.get e2
  rw [List.getElem?_eq_getElem lt] at h1
  cases h1
  exact ⟨_, S1, e1, h2, h3⟩
/-- a look, and what its parts are -/
theorem PvR.part {K : PySem.W.Frag} {R P H : Hp} {S Z : ASet} {a : PV} {x : V} (ph : RSub P H) (ra : PvR K R P H S a x Z) :
    ∃ G S0, RSub G H ∧ Rep K R G a.tr x S0 ∧ ∀ {t : T} {v : V} {S1 : ASet} {p : PV}, Rep K R G t v S1 → (∀ b, S1 b → S0 b) → subT a t = some p → PvR K R P H S p v NoA := by
  cases a with
  | fr u =>
    refine ⟨H, Z, RSub.refl H, ra, fun {t v S1 p} r _ h => ?_⟩
    cases t with
    | dat d =>
      cases h
      cases r with
      | dat hd => exact .dat hd
    | fn c =>
      cases h
      cases r with
      | fn n => exact .fn n
    | exc c =>
      cases h
      cases r with
      | exc n n2 => exact .exc n n2
    | _ => cases h
  | vw u =>
    obtain ⟨_, S0, r0, sub⟩ := ra
    exact ⟨H, S0, RSub.refl H, r0, fun r s h => mkV_rep (P := P) (.own r) h fun b z => sub b (s b z)⟩
  | pv u =>
    obtain ⟨_, S0, r0⟩ := ra
    exact ⟨P, S0, ph, r0, fun r s h => mkV_rep (P := P) (.vw r) h fun b z => z.elim⟩
abbrev IxK (X : Cx) (op : PV → PV → Option PV) : Prop := IxR X (rOp X.K op)
theorem IxR.imp {X : Cx} {r r' : R2} (h : IxR X r) (k : ∀ x y H Q, r' x y H Q → r x y H Q) : IxR X r' := fun a b pins s σ H x y v u Q I rx ry q hs => h a b pins s σ H x y v u Q I rx ry (k x y H Q q) hs
theorem IxR.or {X : Cx} {r r' : R2} (h : IxR X r) (h' : IxR X r') : IxR X (fun x y H Q => r x y H Q ∨ r' x y H Q) := fun a b pins s σ H x y v u Q I rx ry q hs => q.elim (fun q => h a b pins s σ H x y v u Q I rx ry q hs) fun q => h' a b pins s σ H x y v u Q I rx ry q hs
theorem PvR.tr_rep {K : PySem.W.Frag} {R P H : Hp} {S Z : ASet} {p : PV} {v : V} (ph : RSub P H) (r : PvR K R P H S p v Z) {Y : Prop} (k : ∀ G S0, RSub G H → Rep K R G p.tr v S0 → Y) : Y := by
  obtain ⟨G, S0, g, r⟩ := r.look ph
  exact k G S0 g r
theorem ok_ix {X : Cx} : IxK X opIx := by
  refine IxR.imp (IxR.or ix_list (IxR.or ix_tup ix_str)) fun x y H Q k => ?_
  obtain ⟨R, P, S, a, b, Za, Zb, p, rh, ph, ra, rb, e, k⟩ := k
  unfold opIx at e
  split at e
  · rename_i i eb
    have hy := dat_int (pD_rep rh ph rb eb)
    obtain ⟨G, S0, g, r, part⟩ := ra.part ph
    split at e
    · rename_i ds ea
      rw [ea] at r
      cases hd : atI ds i with
      | none => rw [hd] at e; cases e
      | some d =>
        rw [hd] at e; cases e
        cases r with
        | dat h => cases h with
          | lst h1 h2 =>
            obtain ⟨v, e1, e2⟩ := h2.at_ hd
            exact .inl ⟨_, _, i, v, rfl, hy, SqL.of (rh.ex h1 rfl), e1, k v R H NoA (PF.refl rh) (Rep.dat e2)⟩
    · rename_i ds ea
      rw [ea] at r
      cases hd : atI ds i with
      | none => rw [hd] at e; cases e
      | some d =>
        rw [hd] at e; cases e
        cases r with
        | dat h => cases h with
          | tup h1 h2 =>
            obtain ⟨v, e1, e2⟩ := h2.at_ hd
            exact .inr (.inl ⟨_, _, i, v, rfl, hy, SqT.of (rh.ex h1 rfl), e1, k v R H NoA (PF.refl rh) (Rep.dat e2)⟩)
    · rename_i z ea
      rw [ea] at r
      split at e
      · rename_i hz
        cases hd : atI z.cps.toList i with
        | none => rw [hd] at e; cases e
        | some d =>
          rw [hd] at e; cases e
          cases r with
          | dat h => exact .inr (.inr ⟨z, i, d, dat_str h, hy, hz, hd, k _ R H NoA (PF.refl rh) (Rep.dat (.str _))⟩)
      · cases e
    · rename_i ts ea
      cases hd : atI ts i with
      | none => rw [hd] at e; cases e
      | some t =>
        rw [hd] at e
        simp only [Option.bind_some] at e
        rw [ea] at r
        cases r with
        | lst h1 h2 h3 =>
          rename_i A vs S1
          obtain ⟨v, S2, e1, e2, e3⟩ := h2.at_ hd
          exact .inl ⟨_, _, i, v, rfl, hy, SqL.of (g.ex h1 rfl), e1, k v R H NoA (PF.refl rh) (part e2 (fun b z => .inr (e3 b z)) e)⟩
    · rename_i ts ea
      cases hd : atI ts i with
      | none => rw [hd] at e; cases e
      | some t =>
        rw [hd] at e
        simp only [Option.bind_some] at e
        rw [ea] at r
        cases r with
        | tup h1 h2 =>
          obtain ⟨v, S2, e1, e2, e3⟩ := h2.at_ hd
          exact .inr (.inl ⟨_, _, i, v, rfl, hy, SqT.of (rh.ex h1 rfl), e1, k v R H NoA (PF.refl rh) (part e2 e3 e)⟩)
    · cases e
  · cases e
theorem ej_ix {X : Cx} {W : WX} {a b : Expr} {fa fb : Es} {pos : Pos} (ha : EJ X W a fa) (hb : EJ X W b fb) (hs : PlainIx b := by exact fun _ _ => rfl) : EJ X W (.Subscript a b pos) (e2 opIx fa fb) := PE.imp (pe_ix ok_ix ha hb hs) fun _ _ _ h => e2_imp h
end VS

set_option Elab.async false
set_option linter.all false
set_option maxRecDepth 100000
/-! Value semantics, 13: slices, built-in functions on values. -/
namespace VS
open PySem PySem.Spec PyProof.Rows L2

/-! ### slices -/
def cutL {α : Type} (xs : List α) (lo hi : Option Int) : List α := (xs.drop (HT.sIx xs.length 0 lo)).take (HT.sIx xs.length xs.length hi - HT.sIx xs.length 0 lo)
def opSl (a : PV) (lo hi : Option Int) : Option PV := match a.tr with
  | .scr ns => some (vNew ((cutL ns lo hi).map .int))
  | .dat (.str x) => if x.length ≤ sizeLine then some (vStr (cutS x lo hi)) else none
  | _ => match pL a with
    | some ds => some (vNew (cutL ds lo hi))
    | none => match pTu a with
      | some ds => some (vDat (.tuple (cutL ds lo hi)))
      | none => none
def oPart : Option Es → List T → Option (Option (Option Int × Bool × List T))
  | none, e => some (some (none, true, e))
  | some f, e => match f e with
    | some (.ok q p e') => (pI p).map fun i => some (some i, q, e')
    | some (.x _ _) => some none
    | none => none
def oErr (f : Option Es) (e : List T) : Option Er := match f with
  | some f => f e
  | none => none
/-- a[lo:hi], the ends quiet or the sliced thing held -/
def eSl (fa : Es) (lo hi : Option Es) : Es := fun env => match fa env with
  | some (.ok q a e1) => match oPart lo e1 with
    | some (some (l, q1, e2)) => match oPart hi e2 with
      | some (some (h, q2, e3)) => if (a.held || (q1 && q2)) = true then (opSl a l h).map fun p => .ok (q && q1 && q2) p e3 else none
      | some none => oErr hi e2
      | none => none
    | some none => oErr lo e1
    | none => none
  | r => r
def rdO (K : PySem.W.Frag) (W : WX) : Option Es → TO
  | none => tNoPart
  | some f => tPart (rdE K W f)
def rSl (K : PySem.W.Frag) : V → Option Int → Option Int → Hp → VK → Prop := fun x lo hi H Q => ∃ R P S a Z p, RSub R H ∧ RSub P H ∧ PvR K R P H S a x Z ∧ opSl a lo hi = some p ∧ ∀ z R' H' Z', PF R H R' H' Z' → PvR K R' P H' S p z Z' → Q z H'
theorem sIx_map {α β : Type} (f : α → β) (xs : List α) (lo hi : Option Int) : cutL (xs.map f) lo hi = (cutL xs lo hi).map f := by
  unfold cutL
  rw [List.length_map, List.map_take, List.map_drop]
theorem DatAll.cut {M : Rdr} {vs : List V} {ds : List D} (h : DatAll M vs ds) (lo hi : Option Int) : DatAll M (cutV vs lo hi) (cutL ds lo hi) := by
  unfold cutV cutL
  rw [h.length]
  exact (h.drop _).take _
theorem datAll_ints {M : Rdr} : ∀ ns : List Int, DatAll M (ns.map V.int) (ns.map .int)
  | [] => .nil
  | n :: ns => .cons (.int n) (datAll_ints ns)
theorem cut_all {α : Type} {xs : List α} {lo hi : Option Int} (h : HT.sIx xs.length 0 lo = 0 ∧ HT.sIx xs.length xs.length hi = xs.length) : cutL xs lo hi = xs := by
  unfold cutL
  rw [h.1, h.2]
  simp
theorem sl_ok {X : Cx} : SlR X (rSl X.K) := by
  have base := SlR.or (X := X) sl_list (SlR.or sl_tupA sl_str)
  intro pins s σ H x v vl vu lo hi sl Q I rx hs pl pu h
  obtain ⟨R, P, S, a, Z, p, rh, ph, ra, e, k⟩ := h
  refine base pins s σ H x v vl vu lo hi sl Q I rx hs pl pu ?_
  have new : ∀ {A : Addr} {vs : List V} {ds : List D}, SqL X.K H A vs → DatAll (Reg R) vs ds → (∀ z R' H' Z', PF R H R' H' Z' → PvR X.K R' P H' S (vNew (cutL ds lo hi)) z Z' → Q z H') → rSlL X.K (.ref A) lo hi H Q := fun hA hd k => ⟨_, _, rfl, hA, fun p hp => k _ R _ _ (PF.own rh hp) (rep_new (hd.cut lo hi))⟩
  unfold opSl at e
  obtain ⟨G, S0, g, r⟩ := ra.look ph
  split at e
  · rename_i ns ea
    cases e
    rw [ea] at r
    cases r with
    | scr hq =>
      refine .inl (new (rh.sqL hq) (datAll_ints ns) ?_)
      rw [sIx_map]
      exact k
  · rename_i z ea
    split at e
    · rename_i hz
      cases e
      rw [ea] at r
      cases r with
      | dat hd => exact .inr (.inr ⟨z, dat_str hd, hz, k _ R H NoA (PF.refl rh) (Rep.dat (.str _))⟩)
    · cases e
  · split at e
    · rename_i ds hl
      cases e
      obtain ⟨A, vs, rfl, h1, h2⟩ := pL_rep rh ph ra hl
      exact .inl (new (SqL.of h1) h2 k)
    · split at e
      · rename_i ds hl
        cases e
        obtain ⟨A, vs, rfl, h1, h2⟩ := pTu_rep ph ra hl
        refine .inr (.inl ⟨A, vs, rfl, SqT.of (rh.ex h1 rfl), fun hw => ?_, fun _ p hp => ?_⟩)
        · rw [h2.length] at hw
          have z := k (.ref A) R H NoA (PF.refl rh)
          rw [cut_all hw] at z
          exact z (Rep.dat (.tup h1 h2))
        · have n : R p = none := rh.no hp
          exact k _ _ _ NoA (PF.reg rh hp) (Rep.dat (.tup upd_same ((h2.cut lo hi).mono fun b o e => Sub.upd n b o e)))
      · cases e
theorem eSl_imp {K : PySem.W.Frag} {W : WX} {fa : Es} {lo hi : Option Es} {σ : L2.St} {H : Hp} {Q : VK} (h : rdE K W (eSl fa lo hi) σ H Q) : tSl (rSl K) (rdE K W fa) (rdO K W lo) (rdO K W hi) σ H Q := by
  obtain ⟨env, R, P, S, r, sr, hr, post⟩ := h
  unfold eSl at hr
  cases ha : fa env with
  | none => rw [ha] at hr; cases hr
  | some rr =>
    rw [ha] at hr
    refine ⟨env, R, P, S, rr, sr, ha, ?_⟩
    cases rr with
    | x ex e => cases hr; exact post
    | ok q a e1 =>
      simp only at hr
      intro v R1 H1 S1 Z1 t1 p1
      -- an end's reading
      have part : ∀ {f : Option Es} {e1 : List T} {R1 H1 : Hp} {S1 : ASet} {Q' : Option Int → Hp → Prop}, SR K e1 σ R1 P H1 S1 → (oPart f e1 = some none → ErP K W σ P e1 R1 H1 S1 (fun _ _ => False) (((oErr f e1).getD (.ok true vNon e1)))) →
          (∀ l q1 e2, oPart f e1 = some (some (l, q1, e2)) → ∀ R2 H2 S2 Z2, Stp K σ P e1 R1 H1 S1 q1 e2 R2 H2 S2 Z2 → Q' l H2) → oPart f e1 ≠ none → rdO K W f σ H1 Q' := by
        intro f e1 R1 H1 S1 Q' sr1 hx hq hn
        cases f with
        | none => exact hq none true e1 rfl R1 H1 S1 NoA sr1.stp
        | some f =>
          show rdE K W f σ H1 _
          cases hf : f e1 with
          | none => exact absurd (by simp only [oPart, hf]) hn
          | some rf =>
            refine ⟨e1, R1, P, S1, rf, sr1, hf, ?_⟩
            cases rf with
            | x ex e => have z := hx (by simp only [oPart, hf]); simp only [oErr, hf] at z; exact z
            | ok q1 p e2 =>
              intro v R2 H2 S2 Z2 t2 p2
              cases hi : pI p with
              | none => exact absurd (by simp only [oPart, hf, hi]; rfl) hn
              | some i => exact ⟨i, pI_rep t2.sr.rh t2.sr.ph p2 hi, hq (some i) q1 e2 (by simp only [oPart, hf, hi]; rfl) R2 H2 S2 Z2 t2⟩
      refine part t1.sr (fun hx => ?_) (fun l q1 e2 h1 R2 H2 S2 Z2 t2 => ?_) (fun hn => ?_)
      · rw [hx] at hr
        simp only at hr
        cases lo with
        | none => cases hx
        | some f =>
          have hr : f e1 = some r := hr
          show ErP K W σ P e1 R1 H1 S1 _ ((f e1).getD _)
          rw [hr]
          simp only [oPart, hr] at hx
          cases r with
          | ok q2 p2 e2 => simp only at hx; cases hp : pI p2 <;> (rw [hp] at hx; cases hx)
          | x ex e2 => exact fun c d R' H' S' s' f' ex' => post c d R' H' S' s' (t1.frX f') ex'
      · rw [h1] at hr
        simp only at hr
        refine part t2.sr (fun hx => ?_) (fun h q2 e3 h2 R3 H3 S3 Z3 t3 => ?_) (fun hn => ?_)
        · rw [hx] at hr
          simp only at hr
          cases hi with
          | none => cases hx
          | some f =>
            have hr : f e2 = some r := hr
            show ErP K W σ P e2 R2 H2 S2 _ ((f e2).getD _)
            rw [hr]
            simp only [oPart, hr] at hx
            cases r with
            | ok q2 p2 e3 => simp only at hx; cases hp : pI p2 <;> (rw [hp] at hx; cases hx)
            | x ex e3 => exact fun c d R' H' S' s' f' ex' => post c d R' H' S' s' (t1.frX (t2.frX f')) ex'
        · rw [h2] at hr
          simp only at hr
          split at hr
          · rename_i hc
            cases ho : opSl a l h with
            | none => rw [ho] at hr; cases hr
            | some p =>
              rw [ho] at hr; cases hr
              have t23 := t2.next t3
              have pa := PvR.over t1 p1 t23 hc
              refine ⟨R3, P, S3, a, Z1, p, t3.sr.rh, t3.sr.ph, pa, ho, fun z R' H' Z' pf pz => ?_⟩
              have t := (t1.next t23).next (t3.sr.step pf)
              rw [Bool.and_true, ← Bool.and_assoc] at t
              exact post z R' H' S3 Z' t pz
          · cases hr
        · rw [hn] at hr; cases hr
      · rw [hn] at hr; cases hr
section
variable {X : Cx} {W : WX} {a lo hi : Expr} {fa fl fh : Es} {p2 pos : Pos}
theorem ej_sl (ha : EJ X W a fa) (hl : EJ X W lo fl) (hh : EJ X W hi fh) : EJ X W (.Subscript a (.Slice (some lo) (some hi) none p2) pos) (eSl fa (some fl) (some fh)) := PE.imp (pe_slice sl_ok ha (po_some hl) (po_some hh)) fun _ _ _ h => eSl_imp h
theorem ej_slF (ha : EJ X W a fa) (hl : EJ X W lo fl) : EJ X W (.Subscript a (.Slice (some lo) none none p2) pos) (eSl fa (some fl) none) := PE.imp (pe_slice sl_ok ha (po_some hl) po_none) fun _ _ _ h => eSl_imp h
theorem ej_slT (ha : EJ X W a fa) (hh : EJ X W hi fh) : EJ X W (.Subscript a (.Slice none (some hi) none p2) pos) (eSl fa none (some fh)) := PE.imp (pe_slice sl_ok ha po_none (po_some hh)) fun _ _ _ h => eSl_imp h
theorem ej_slA (ha : EJ X W a fa) : EJ X W (.Subscript a (.Slice none none none p2) pos) (eSl fa none none) := PE.imp (pe_slice sl_ok ha po_none po_none) fun _ _ _ h => eSl_imp h
end
end VS

set_option Elab.async false
set_option linter.all false
set_option maxRecDepth 100000
/-! Value semantics, 14: built-in functions by values. -/
namespace VS
open PySem PySem.Spec PyProof.Rows L2

/-! ### data for the library's rules -/
section
variable {X : Cx} {pins : List (Addr × Obj)} {σ : L2.St} {H : Hp} {s : Shared}
mutual
theorem Dat.reads (I : Inv X pins σ H s) : ∀ {v : V} {d : D} {u : Value}, Dat (Rdd H) v d → RelV v u → d.hasDict = false → ∃ as, Reads s.heap u d as
  | _, _, _, .non, r, _ => by cases r; exact ⟨_, .none⟩
  | _, _, _, .bl b, r, _ => by cases r; exact ⟨_, .bool b⟩
  | _, _, _, .int i, r, _ => by obtain ⟨t, rfl⟩ := r; exact ⟨_, .int i t⟩
  | _, _, _, .str x, r, _ => by obtain ⟨t, rfl⟩ := r; exact ⟨_, .str x t⟩
  | _, _, _, .lst h k, r, n => by
    cases r
    obtain ⟨_, its, m, rv, e⟩ := I.hok _ _ (h.ex rfl)
    obtain ⟨as, q⟩ := DatAll.reads I k rv (by simpa [PyData.hasDict] using n)
    exact ⟨_, .list e rfl rfl q⟩
  | _, _, _, .tup h k, r, n => by
    cases r
    obtain ⟨_, its, rv, o, h1, h2, m, h3⟩ := I.hok _ _ (h.ex rfl)
    obtain ⟨as, q⟩ := DatAll.reads I k rv (by simpa [PyData.hasDict] using n)
    exact ⟨_, .tuple h1 h2 h3 q⟩
  | _, _, _, .dK _ _, _, n => by simp [PyData.hasDict] at n
  | _, _, _, .dT _ _, _, n => by simp [PyData.hasDict] at n
theorem DatAll.reads (I : Inv X pins σ H s) : ∀ {vs : List V} {ds : List D} {us : List Value}, DatAll (Rdd H) vs ds → Vals vs us → PyData.hasDictAll ds = false → ∃ as, ReadsAll s.heap us ds as
  | _, _, _, .nil, .nil, _ => ⟨_, .nil⟩
  | _, _, _, .cons a b, .cons r t, n => by
    rw [PyData.hasDictAll, Bool.or_eq_false_iff] at n
    obtain ⟨as, q⟩ := Dat.reads I a r n.1
    obtain ⟨bs, q2⟩ := DatAll.reads I b t n.2
    exact ⟨_, .cons q q2⟩
end
end

/-! ### one argument, two -/
def on1 (op : PV → Option PV) : List PV → Option PV
  | [p] => op p
  | _ => none
def on2 (op : PV → PV → Option PV) : List PV → Option PV
  | [p, q] => op p q
  | _ => none
section
variable {X : Cx}
theorem callK1 {f : Value} {r : List V → Hp → VK → Prop} {op : PV → Option PV} (h : CallR X f r)
    (k : ∀ {R P H : Hp} {S Z : ASet} {p q : PV} {x : V} {Q : VK}, RSub R H → RSub P H → PvR X.K R P H S p x Z → op p = some q → (∀ z R' H' Z', PF R H R' H' Z' → PvR X.K R' P H' S q z Z' → Q z H') → r [x] H Q) : CallK X f (on1 op) :=
  CallR.imp h fun vs H Q q => by
    obtain ⟨R, P, S, ps, Z, p, rh, ph, rs, e, post⟩ := q
    cases rs with
    | nil => cases e
    | cons a b _ => cases b with
      | nil => exact k rh ph a e post
      | cons _ _ _ => cases e
theorem callK2 {f : Value} {r : List V → Hp → VK → Prop} {op : PV → PV → Option PV} (h : CallR X f r)
    (k : ∀ {R P H : Hp} {S Z Z2 : ASet} {p p2 q : PV} {x y : V} {Q : VK}, RSub R H → RSub P H → PvR X.K R P H S p x Z → PvR X.K R P H S p2 y Z2 → op p p2 = some q → (∀ z R' H' Z', PF R H R' H' Z' → PvR X.K R' P H' S q z Z' → Q z H') → r [x, y] H Q) : CallK X f (on2 op) :=
  CallR.imp h fun vs H Q q => by
    obtain ⟨R, P, S, ps, Z, p, rh, ph, rs, e, post⟩ := q
    cases rs with
    | nil => cases e
    | cons a b _ => cases b with
      | nil => cases e
      | cons a2 b2 _ => cases b2 with
        | nil => exact k rh ph a a2 e post
        | cons _ _ _ => cases e

/-! ### sequences: len, list, tuple -/
/-- lists and tuples, whoever owns them: how many -/
def seqN : T → Option Nat
  | .dat (.list ds) => some ds.length
  | .dat (.tuple ds) => some ds.length
  | .scr ns => some ns.length
  | .lst ts => some ts.length
  | .tup ts => some ts.length
  | _ => none
theorem seqN_rep {K : PySem.W.Frag} {R G H : Hp} {S : ASet} {t : T} {x : V} {n : Nat} (rh : RSub R H) (gh : RSub G H) (r : Rep K R G t x S) (e : seqN t = some n) :
    ∃ a ys, x = .ref a ∧ (SqL K H a ys ∨ SqT K H a ys) ∧ ys.length = n := by
  cases r with
  | dat h => cases h with
    | lst h1 h2 => cases e; exact ⟨_, _, rfl, .inl (SqL.of (rh.ex h1 rfl)), h2.length⟩
    | tup h1 h2 => cases e; exact ⟨_, _, rfl, .inr (SqT.of (rh.ex h1 rfl)), h2.length⟩
    | _ => cases e
  | scr h => cases e; exact ⟨_, _, rfl, .inl (rh.sqL h), by simp⟩
  | lst h1 h2 _ => cases e; exact ⟨_, _, rfl, .inl (SqL.of (gh.ex h1 rfl)), h2.len⟩
  | tup h1 h2 => cases e; exact ⟨_, _, rfl, .inr (SqT.of (rh.ex h1 rfl)), h2.len⟩
  | _ => cases e
def bLen (p : PV) : Option PV := match p.tr with
  | .dat (.str x) => if x.length ≤ sizeLine then some (vInt x.length) else none
  | t => (seqN t).map fun n => vInt n
theorem cl_len : CallK X (.builtin "len") (on1 bLen) := callK1 call_len fun {R P H S Z p q x Q} rh ph ra e k => by
  obtain ⟨G, S0, g, r⟩ := ra.look ph
  unfold bLen at e
  split at e
  · rename_i z ea
    split at e
    · rename_i hz
      cases e
      rw [ea] at r
      cases r with
      | dat hd =>
        rw [dat_str hd]
        exact ⟨_, z.length, rfl, ⟨hz, rfl⟩, k _ R H NoA (PF.refl rh) (Rep.dat (.int _))⟩
    · cases e
  · cases en : seqN p.tr with
    | none => rw [en] at e; cases e
    | some n =>
      rw [en] at e; cases e
      obtain ⟨a, ys, rfl, hs, rfl⟩ := seqN_rep rh g r en
      refine ⟨_, ys.length, rfl, ?_, k _ R H NoA (PF.refl rh) (Rep.dat (.int _))⟩
      exact hs.imp (fun h => ⟨ys, h, rfl⟩) fun h => ⟨ys, h, rfl⟩
/-- the kept items of a list, a tuple -/
def seqD (p : PV) : Option (List D) := match p.tr with
  | .scr ns => some (ns.map .int)
  | _ => match pL p with
    | some ds => some ds
    | none => pTu p
theorem seqD_rep {K : PySem.W.Frag} {R P H : Hp} {S Z : ASet} {p : PV} {x : V} {ds : List D} (rh : RSub R H) (ph : RSub P H) (ra : PvR K R P H S p x Z) (e : seqD p = some ds) :
    ∃ a ys, x = .ref a ∧ (SqL K H a ys ∨ SqT K H a ys) ∧ DatAll (Reg R) ys ds := by
  unfold seqD at e
  split at e
  · rename_i ns ea
    cases e
    obtain ⟨G, S0, g, r⟩ := ra.look ph
    rw [ea] at r
    cases r with
    | scr h => exact ⟨_, _, rfl, .inl (rh.sqL h), datAll_ints ns⟩
  · split at e
    · rename_i hl
      cases e
      obtain ⟨a, vs, rfl, h1, h2⟩ := pL_rep rh ph ra hl
      exact ⟨a, vs, rfl, .inl (SqL.of h1), h2⟩
    · obtain ⟨a, vs, rfl, h1, h2⟩ := pTu_rep ph ra e
      exact ⟨a, vs, rfl, .inr (SqT.of (rh.ex h1 rfl)), h2⟩
def bList (p : PV) : Option PV := (seqD p).map vNew
theorem cl_list : CallK X (.type "list") (on1 bList) := callK1 call_list_of fun {R P H S Z p q x Q} rh ph ra e k => by
  unfold bList at e
  cases ed : seqD p with
  | none => rw [ed] at e; cases e
  | some ds =>
    rw [ed] at e; cases e
    obtain ⟨a, ys, rfl, hs, hd⟩ := seqD_rep rh ph ra ed
    exact ⟨a, ys, rfl, hs, fun l hl => k _ R _ _ (PF.own rh hl) (rep_new hd)⟩
def bTuple (p : PV) : Option PV := (seqD p).map fun ds => vDat (.tuple ds)
theorem cl_tuple : CallK X (.type "tuple") (on1 bTuple) := callK1 call_tuple_of fun {R P H S Z p q x Q} rh ph ra e k => by
  unfold bTuple at e
  cases ed : seqD p with
  | none => rw [ed] at e; cases e
  | some ds =>
    rw [ed] at e; cases e
    unfold seqD at ed
    have new : ∀ {ys : List V}, DatAll (Reg R) ys ds → ∀ l, H l = none → Q (.ref l) (upd H l (.tup ys)) := fun {ys} hd l hl => by
      have n : R l = none := rh.no hl
      exact k _ _ _ NoA (PF.reg rh hl) (Rep.dat (.tup upd_same (hd.mono fun b o e => Sub.upd n b o e)))
    split at ed
    · rename_i ns ea
      cases ed
      obtain ⟨G, S0, g, r⟩ := ra.look ph
      rw [ea] at r
      cases r with
      | scr h => exact ⟨_, _, rfl, .inl ⟨rh.sqL h, new (datAll_ints ns)⟩⟩
    · split at ed
      · rename_i hl
        cases ed
        obtain ⟨a, vs, rfl, h1, h2⟩ := pL_rep rh ph ra hl
        exact ⟨a, vs, rfl, .inl ⟨SqL.of h1, new h2⟩⟩
      · obtain ⟨a, vs, rfl, h1, h2⟩ := pTu_rep ph ra ed
        exact ⟨a, vs, rfl, .inr ⟨SqT.of (rh.ex h1 rfl), k _ R H NoA (PF.refl rh) (Rep.dat (.tup h1 h2))⟩⟩

/-! ### all, any, sum, the least, the greatest -/
def allB : List D → Option (List Bool)
  | [] => some []
  | .bool b :: r => (allB r).map (b :: ·)
  | _ => none
def allI : List D → Option (List Int)
  | [] => some []
  | .int b :: r => (allI r).map (b :: ·)
  | _ => none
theorem allB_rep {M : Rdr} : ∀ {vs : List V} {ds : List D} {bs : List Bool}, DatAll M vs ds → allB ds = some bs → vs = bs.map V.bl
  | _, _, _, .nil, e => by cases e; rfl
  | _, _, _, .cons a b, e => by
    cases a with
    | bl x =>
      rw [allB] at e
      cases h : allB _ with
      | none => rw [h] at e; cases e
      | some bs => rw [h] at e; cases e; rw [allB_rep b h]; rfl
    | _ => cases e
theorem allI_rep {M : Rdr} : ∀ {vs : List V} {ds : List D} {bs : List Int}, DatAll M vs ds → allI ds = some bs → vs = bs.map V.int
  | _, _, _, .nil, e => by cases e; rfl
  | _, _, _, .cons a b, e => by
    cases a with
    | int x =>
      rw [allI] at e
      cases h : allI _ with
      | none => rw [h] at e; cases e
      | some bs => rw [h] at e; cases e; rw [allI_rep b h]; rfl
    | _ => cases e
theorem allI_map : ∀ ns : List Int, allI (ns.map .int) = some ns
  | [] => rfl
  | n :: ns => by
    show (allI (ns.map .int)).map (n :: ·) = _
    rw [allI_map ns]; rfl
theorem allB_map : ∀ ns : List Bool, allB (ns.map .bool) = some ns
  | [] => rfl
  | n :: ns => by
    show (allB (ns.map .bool)).map (n :: ·) = _
    rw [allB_map ns]; rfl
def pBs (p : PV) : Option (List Bool) := (pL p).bind allB
/-- a list of whole numbers -/
def pIs (p : PV) : Option (List Int) := match p.tr with
  | .scr ns => some ns
  | _ => (pL p).bind allI
theorem pBs_rep {K : PySem.W.Frag} {R P H : Hp} {S Z : ASet} {p : PV} {x : V} {bs : List Bool} (rh : RSub R H) (ph : RSub P H) (ra : PvR K R P H S p x Z) (e : pBs p = some bs) : ∃ a, x = .ref a ∧ SqL K H a (bs.map V.bl) := by
  unfold pBs at e
  cases h : pL p with
  | none => rw [h] at e; cases e
  | some ds =>
    rw [h] at e
    obtain ⟨a, vs, rfl, h1, h2⟩ := pL_rep rh ph ra h
    exact ⟨a, rfl, SqL.of (by rw [← allB_rep h2 e]; exact h1)⟩
theorem pIs_rep {K : PySem.W.Frag} {R P H : Hp} {S Z : ASet} {p : PV} {x : V} {bs : List Int} (rh : RSub R H) (ph : RSub P H) (ra : PvR K R P H S p x Z) (e : pIs p = some bs) : ∃ a, x = .ref a ∧ SqL K H a (bs.map V.int) := by
  unfold pIs at e
  split at e
  · rename_i ns ea
    cases e
    obtain ⟨G, S0, g, r⟩ := ra.look ph
    rw [ea] at r
    cases r with
    | scr h => exact ⟨_, rfl, rh.sqL h⟩
  · cases h : pL p with
    | none => rw [h] at e; cases e
    | some ds =>
      rw [h] at e
      obtain ⟨a, vs, rfl, h1, h2⟩ := pL_rep rh ph ra h
      exact ⟨a, rfl, SqL.of (by rw [← allI_rep h2 e]; exact h1)⟩
def bAll (p : PV) : Option PV := (pBs p).map fun bs => vBl (bs.all id)
def bAny (p : PV) : Option PV := (pBs p).map fun bs => vBl (bs.any id)
def bSum (p : PV) : Option PV := (pIs p).map fun ns => vInt ns.sum
def maxI : List Int → Option Int
  | [] => none
  | n :: ns => some (ns.foldl max n)
def minI : List Int → Option Int
  | [] => none
  | n :: ns => some (ns.foldl min n)
def bMax (p : PV) : Option PV := ((pIs p).bind maxI).map vInt
def bMin (p : PV) : Option PV := ((pIs p).bind minI).map vInt
theorem cl_all (hc : X.calm = true) : CallK X (.builtin "all") (on1 bAll) := callK1 (cr_all hc) fun {R P H S Z p q x Q} rh ph ra e k => by
  unfold bAll at e
  cases h : pBs p with
  | none => rw [h] at e; cases e
  | some bs =>
    rw [h] at e; cases e
    obtain ⟨a, rfl, hs⟩ := pBs_rep rh ph ra h
    exact ⟨a, bs, rfl, hs, k _ R H NoA (PF.refl rh) (Rep.dat (.bl _))⟩
theorem cl_any (hc : X.calm = true) : CallK X (.builtin "any") (on1 bAny) := callK1 (cr_any hc) fun {R P H S Z p q x Q} rh ph ra e k => by
  unfold bAny at e
  cases h : pBs p with
  | none => rw [h] at e; cases e
  | some bs =>
    rw [h] at e; cases e
    obtain ⟨a, rfl, hs⟩ := pBs_rep rh ph ra h
    exact ⟨a, bs, rfl, hs, k _ R H NoA (PF.refl rh) (Rep.dat (.bl _))⟩
theorem cl_sum (hc : X.calm = true) : CallK X (.builtin "sum") (on1 bSum) := callK1 (cr_sum hc) fun {R P H S Z p q x Q} rh ph ra e k => by
  unfold bSum at e
  cases h : pIs p with
  | none => rw [h] at e; cases e
  | some bs =>
    rw [h] at e; cases e
    obtain ⟨a, rfl, hs⟩ := pIs_rep rh ph ra h
    exact ⟨a, bs, rfl, hs, k _ R H NoA (PF.refl rh) (Rep.dat (.int _))⟩
theorem foldl_max (ns : List Int) : ∀ n : Int, (ns.foldl max n = n ∨ ns.foldl max n ∈ ns) ∧ n ≤ ns.foldl max n ∧ ∀ y, y ∈ ns → y ≤ ns.foldl max n := by
  induction ns with
  | nil => intro n; exact ⟨.inl rfl, Int.le_refl _, fun _ h => nomatch h⟩
  | cons a r ih =>
    intro n
    obtain ⟨h1, h2, h3⟩ := ih (max n a)
    rw [List.foldl_cons]
    refine ⟨?_, by omega, fun y hy => ?_⟩
    · rcases h1 with h | h
      · rw [h]
        rcases Int.le_total n a with c | c
        · exact .inr (by rw [Int.max_eq_right c]; exact List.mem_cons_self)
        · exact .inl (Int.max_eq_left c)
      · exact .inr (List.mem_cons_of_mem _ h)
    · rcases List.mem_cons.mp hy with rfl | h
      · omega
      · exact h3 y h
theorem foldl_min (ns : List Int) : ∀ n : Int, (ns.foldl min n = n ∨ ns.foldl min n ∈ ns) ∧ ns.foldl min n ≤ n ∧ ∀ y, y ∈ ns → ns.foldl min n ≤ y := by
  induction ns with
  | nil => intro n; exact ⟨.inl rfl, Int.le_refl _, fun _ h => nomatch h⟩
  | cons a r ih =>
    intro n
    obtain ⟨h1, h2, h3⟩ := ih (min n a)
    rw [List.foldl_cons]
    refine ⟨?_, by omega, fun y hy => ?_⟩
    · rcases h1 with h | h
      · rw [h]
        rcases Int.le_total n a with c | c
        · exact .inl (Int.min_eq_left c)
        · exact .inr (by rw [Int.min_eq_right c]; exact List.mem_cons_self)
      · exact .inr (List.mem_cons_of_mem _ h)
    · rcases List.mem_cons.mp hy with rfl | h
      · omega
      · exact h3 y h
theorem maxI_is {ns : List Int} {m : Int} (e : maxI ns = some m) : 0 < ns.length ∧ m ∈ ns ∧ ∀ y, y ∈ ns → y ≤ m := by
  cases ns with
  | nil => cases e
  | cons n r =>
    cases e
    obtain ⟨h1, h2, h3⟩ := foldl_max r n
    refine ⟨by simp, ?_, fun y hy => ?_⟩
    · rcases h1 with h | h
      · rw [h]; exact List.mem_cons_self
      · exact List.mem_cons_of_mem _ h
    · rcases List.mem_cons.mp hy with rfl | h
      · exact h2
      · exact h3 y h
theorem minI_is {ns : List Int} {m : Int} (e : minI ns = some m) : 0 < ns.length ∧ m ∈ ns ∧ ∀ y, y ∈ ns → m ≤ y := by
  cases ns with
  | nil => cases e
  | cons n r =>
    cases e
    obtain ⟨h1, h2, h3⟩ := foldl_min r n
    refine ⟨by simp, ?_, fun y hy => ?_⟩
    · rcases h1 with h | h
      · rw [h]; exact List.mem_cons_self
      · exact List.mem_cons_of_mem _ h
    · rcases List.mem_cons.mp hy with rfl | h
      · exact h2
      · exact h3 y h
theorem cl_max (hc : X.calm = true) : CallK X (.builtin "max") (on1 bMax) := callK1 (cr_max hc) fun {R P H S Z p q x Q} rh ph ra e k => by
  unfold bMax at e
  cases h : pIs p with
  | none => rw [h] at e; cases e
  | some ns =>
    rw [h] at e
    cases h2 : maxI ns with
    | none => simp [h2] at e
    | some m =>
      simp only [Option.bind_some, h2, Option.map_some, Option.some.injEq] at e
      subst e
      obtain ⟨a, rfl, hs⟩ := pIs_rep rh ph ra h
      obtain ⟨g1, g2, g3⟩ := maxI_is h2
      refine ⟨a, ns, rfl, hs, g1, fun m' h3 h4 => ?_⟩
      have : m' = m := Int.le_antisymm (g3 _ h3) (h4 _ g2)
      subst this
      exact k _ R H NoA (PF.refl rh) (Rep.dat (.int _))
theorem cl_min (hc : X.calm = true) : CallK X (.builtin "min") (on1 bMin) := callK1 (cr_min hc) fun {R P H S Z p q x Q} rh ph ra e k => by
  unfold bMin at e
  cases h : pIs p with
  | none => rw [h] at e; cases e
  | some ns =>
    rw [h] at e
    cases h2 : minI ns with
    | none => simp [h2] at e
    | some m =>
      simp only [Option.bind_some, h2, Option.map_some, Option.some.injEq] at e
      subst e
      obtain ⟨a, rfl, hs⟩ := pIs_rep rh ph ra h
      obtain ⟨g1, g2, g3⟩ := minI_is h2
      refine ⟨a, ns, rfl, hs, g1, fun m' h3 h4 => ?_⟩
      have : m' = m := Int.le_antisymm (h4 _ g2) (g3 _ h3)
      subst this
      exact k _ R H NoA (PF.refl rh) (Rep.dat (.int _))
def bMax2 (p q : PV) : Option PV := match pD p, pD q with
  | some (.int i), some (.int j) => some (vInt (if j > i then j else i))
  | _, _ => none
def bMin2 (p q : PV) : Option PV := match pD p, pD q with
  | some (.int i), some (.int j) => some (vInt (if j < i then j else i))
  | _, _ => none
theorem cl_max2 (hc : X.calm = true) : CallK X (.builtin "max") (on2 bMax2) := callK2 (call_max2 hc) fun {R P H S Z Z2 p p2 q x y Q} rh ph ra rb e k => by
  unfold bMax2 at e
  split at e
  · rename_i i j ea eb
    cases e
    exact ⟨i, j, by rw [dat_int (pD_rep rh ph ra ea), dat_int (pD_rep rh ph rb eb)], k _ R H NoA (PF.refl rh) (Rep.dat (.int _))⟩
  · cases e
theorem cl_min2 (hc : X.calm = true) : CallK X (.builtin "min") (on2 bMin2) := callK2 (call_min2 hc) fun {R P H S Z Z2 p p2 q x y Q} rh ph ra rb e k => by
  unfold bMin2 at e
  split at e
  · rename_i i j ea eb
    cases e
    exact ⟨i, j, by rw [dat_int (pD_rep rh ph ra ea), dat_int (pD_rep rh ph rb eb)], k _ R H NoA (PF.refl rh) (Rep.dat (.int _))⟩
  · cases e
def bAbs (p : PV) : Option PV := match pD p with
  | some (.int i) => some (vInt (if i < 0 then -i else i))
  | _ => none
theorem cl_abs : CallK X (.builtin "abs") (on1 bAbs) := callK1 call_abs fun {R P H S Z p q x Q} rh ph ra e k => by
  unfold bAbs at e
  split at e
  · rename_i i ea
    cases e
    exact ⟨i, by rw [dat_int (pD_rep rh ph ra ea)], k _ R H NoA (PF.refl rh) (Rep.dat (.int _))⟩
  · cases e
def bInt (p : PV) : Option PV := match pD p with
  | some (.int i) => some (vInt i)
  | some (.bool b) => some (vInt (if b then 1 else 0))
  | some (.str x) => match PySem.intText? x with
    | some n => if x.length ≤ 640 then some (vInt n) else none
    | none => none
  | _ => none
theorem cl_int : CallK X (.type "int") (on1 bInt) := callK1 (CallR.or call_int1 call_int_str) fun {R P H S Z p q x Q} rh ph ra e k => by
  unfold bInt at e
  split at e
  · rename_i i ea
    cases e
    exact .inl (.inl ⟨i, by rw [dat_int (pD_rep rh ph ra ea)], k _ R H NoA (PF.refl rh) (Rep.dat (.int _))⟩)
  · rename_i i ea
    cases e
    exact .inl (.inr ⟨i, by rw [dat_bl (pD_rep rh ph ra ea)], k _ R H NoA (PF.refl rh) (Rep.dat (.int _))⟩)
  · rename_i z ea
    split at e
    · rename_i n hn
      split at e
      · rename_i c
        cases e
        exact .inr ⟨z, n, by rw [dat_str (pD_rep rh ph ra ea)], hn, c, k _ R H NoA (PF.refl rh) (Rep.dat (.int _))⟩
      · cases e
    · cases e
  · cases e
def bStr (p : PV) : Option PV := match pD p with
  | some (.int i) => if i.natAbs.log2 < 1920 then some (vStr (toString i)) else none
  | some (.str x) => some (vStr x)
  | _ => none
theorem cl_str : CallK X (.type "str") (on1 bStr) := callK1 (CallR.or call_str_int SkE.call_str_str) fun {R P H S Z p q x Q} rh ph ra e k => by
  unfold bStr at e
  split at e
  · rename_i i ea
    split at e
    · rename_i c
      cases e
      exact .inl ⟨i, by rw [dat_int (pD_rep rh ph ra ea)], c, k _ R H NoA (PF.refl rh) (Rep.dat (.str _))⟩
    · cases e
  · rename_i z ea
    cases e
    exact .inr ⟨z, by rw [dat_str (pD_rep rh ph ra ea)], k _ R H NoA (PF.refl rh) (Rep.dat (.str _))⟩
  · cases e

/-! ### repr -/
def reprOk (d : D) : Bool := d.showable && !d.hasDict && decide (d.depth ≤ 60) && decide (d.shown.length ≤ sizeLine)
def bRepr (p : PV) : Option PV := match pD p with
  | some d => if reprOk d = true then some (vStr d.shown) else none
  | none => none
theorem call_reprD (hg : X.A.guards = some []) (hu : X.A.units + 64 < cLine) : CallR X (.builtin "repr") (fun xs H Q => ∃ x d, xs = [x] ∧ Dat (Rdd H) x d ∧ reprOk d = true ∧ Q (.str d.shown) H) := by
  intro pins s σ H xs us Q I r h
  obtain ⟨x, d, rfl, hd, ho, q⟩ := h
  obtain ⟨u, rfl, rx⟩ := vals1 r
  unfold reprOk at ho
  simp only [Bool.and_eq_true, decide_eq_true_eq, Bool.not_eq_true'] at ho
  obtain ⟨⟨⟨h1, h2⟩, h3⟩, h4⟩ := ho
  cases hd with
  | non => cases rx; exact PySem.P.repr_of_none ⟨.str _, H, I.tok _, ⟨_, rfl⟩, q⟩
  | bl b =>
    cases rx
    refine PySem.P.repr_of_bool ⟨.str (if b then "True" else "False"), H, I.tok _, ⟨_, by cases b <;> rfl⟩, ?_⟩
    exact q
  | int i => obtain ⟨t, rfl⟩ := rx; exact PySem.P.repr_of_int (by simpa [PyData.showable] using h1) ⟨.str _, H, I.tok _, ⟨_, rfl⟩, q⟩
  | str z => obtain ⟨t, rfl⟩ := rx; exact PySem.P.repr_of_str ⟨.str _, H, I.tok _, ⟨_, rfl⟩, q⟩ h4
  | lst a b =>
    obtain ⟨as, rd⟩ := (Dat.lst a b).reads I rx h2
    cases rx
    exact repr_of_reads' rd h1 (fun z => by rw [h2] at z; cases z) hg (by omega) (fun _ _ e => e) (fun h' u tk hk => ⟨.str _, H, I.kept hk, ⟨_, rfl⟩, q⟩) h4
  | tup a b =>
    obtain ⟨as, rd⟩ := (Dat.tup a b).reads I rx h2
    cases rx
    exact repr_of_reads' rd h1 (fun z => by rw [h2] at z; cases z) hg (by omega) (fun _ _ e => e) (fun h' u tk hk => ⟨.str _, H, I.kept hk, ⟨_, rfl⟩, q⟩) h4
  | dK _ _ => simp [PyData.hasDict] at h2
  | dT _ _ => simp [PyData.hasDict] at h2
theorem cl_repr (hg : X.A.guards = some []) (hu : X.A.units + 64 < cLine) : CallK X (.builtin "repr") (on1 bRepr) := callK1 (call_reprD hg hu) fun {R P H S Z p q x Q} rh ph ra e k => by
  unfold bRepr at e
  split at e
  · rename_i d ea
    split at e
    · rename_i c
      cases e
      exact ⟨_, d, rfl, pD_rep rh ph ra ea, c, k _ R H NoA (PF.refl rh) (Rep.dat (.str _))⟩
    · cases e
  · cases e
end
end VS

set_option Elab.async false
set_option linter.all false
set_option maxRecDepth 100000
/-! Value semantics, 15: isinstance, sorted, minus, chains, turned about. -/
namespace VS
open PySem PySem.Spec PyProof.Rows L2

/-! ### isinstance of a built-in type -/
def tyD : D → Option String
  | .none => some "NoneType"
  | .bool _ => some "bool"
  | .int _ => some "int"
  | .str _ => some "str"
  | .list _ => some "list"
  | .tuple _ => some "tuple"
  | .dict _ => none
def tyT : T → Option String
  | .dat d => tyD d
  | .lst _ => some "list"
  | .tup _ => some "tuple"
  | _ => none
theorem tyT_rep {K : PySem.W.Frag} {R G H : Hp} {S : ASet} {t : T} {x : V} {n : String} (rh : RSub R H) (gh : RSub G H) (r : Rep K R G t x S) (e : tyT t = some n) : TyX K H x (.type n) := by
  cases r with
  | dat h =>
    cases h with
    | non => cases e; exact .base .non
    | bl b => cases e; exact .base (.bl b)
    | int i => cases e; exact .base (.int i)
    | str z => cases e; exact .base (.str z)
    | lst h1 h2 => cases e; exact .base (.lst (rh.ex h1 rfl))
    | tup h1 h2 => cases e; exact .base (.tup (rh.ex h1 rfl))
    | _ => cases e
  | lst h1 h2 _ => cases e; exact .base (.lst (gh.ex h1 rfl))
  | tup h1 h2 => cases e; exact .base (.tup (rh.ex h1 rfl))
  | _ => cases e
theorem tyT_in {t : T} {n : String} (e : tyT t = some n) : n = "NoneType" ∨ n = "bool" ∨ n = "int" ∨ n = "str" ∨ n = "list" ∨ n = "tuple" := by
  cases t with
  | dat d => cases d <;> cases e <;> simp
  | lst _ => cases e; simp
  | tup _ => cases e; simp
  | _ => cases e
def isTy (t u : String) : Bool := t == u || (t == "bool" && u == "int")
def KitTab (K : PySem.W.Frag) (u : String) : Prop := PySem.W.kitOne K (.type "NoneType") (.type u) = some (isTy "NoneType" u) ∧ PySem.W.kitOne K (.type "bool") (.type u) = some (isTy "bool" u) ∧ PySem.W.kitOne K (.type "int") (.type u) = some (isTy "int" u) ∧
  PySem.W.kitOne K (.type "str") (.type u) = some (isTy "str" u) ∧ PySem.W.kitOne K (.type "list") (.type u) = some (isTy "list" u) ∧ PySem.W.kitOne K (.type "tuple") (.type u) = some (isTy "tuple" u)
theorem kt_int {K : PySem.W.Frag} : KitTab K "int" := ⟨rfl, rfl, rfl, rfl, rfl, rfl⟩
theorem kt_bool {K : PySem.W.Frag} : KitTab K "bool" := ⟨rfl, rfl, rfl, rfl, rfl, rfl⟩
theorem kt_str {K : PySem.W.Frag} : KitTab K "str" := ⟨rfl, rfl, rfl, rfl, rfl, rfl⟩
theorem kt_list {K : PySem.W.Frag} : KitTab K "list" := ⟨rfl, rfl, rfl, rfl, rfl, rfl⟩
theorem kt_tuple {K : PySem.W.Frag} : KitTab K "tuple" := ⟨rfl, rfl, rfl, rfl, rfl, rfl⟩
/-- isinstance(f, u) -/
def eIsi (u : String) (f : Es) : Es := fun env => match f env with
  | some (.ok q p e) => (tyT p.tr).map fun n => .ok q (vBl (isTy n u)) e
  | r => r
theorem eIsi_imp {K : PySem.W.Frag} {W : WX} {u : String} {f : Es} {σ : L2.St} {H : Hp} {Q : VK} (kt : KitTab K u) (h : rdE K W (eIsi u f) σ H Q) : tCB (rIsi K) (tCons (rdE K W f) (tCons (tC (.ty u)) tNil)) σ H Q := by
  obtain ⟨env, R, P, S, r, sr, hr, post⟩ := h
  unfold eIsi at hr
  cases hf : f env with
  | none => rw [hf] at hr; cases hr
  | some rf =>
    rw [hf] at hr
    refine ⟨env, R, P, S, rf, sr, hf, ?_⟩
    cases rf with
    | x ex e => cases hr; exact post
    | ok q p e =>
      simp only at hr
      cases hn : tyT p.tr with
      | none => rw [hn] at hr; cases hr
      | some n =>
        rw [hn] at hr; cases hr
        intro v R' H' S' Z st rv
        obtain ⟨G, S0, g, r⟩ := rv.look st.sr.ph
        refine ⟨v, .ty u, .type n, .type u, isTy n u, rfl, .ty u, tyT_rep st.sr.rh g r hn, ?_, ?_⟩
        · obtain ⟨k1, k2, k3, k4, k5, k6⟩ := kt
          rcases tyT_in hn with rfl | rfl | rfl | rfl | rfl | rfl
          · exact k1
          · exact k2
          · exact k3
          · exact k4
          · exact k5
          · exact k6
        · exact post _ R' H' S' NoA (st.drop fun _ h => h.elim) (Rep.dat (.bl _))
section
variable {X : Cx} {W : WX} {a : Expr} {f : Es} {u : String} {y : Str} {p1 p2 pos : Pos}
theorem ej_isi (kt : KitTab X.K u) (ha : EJ X W a f) (hg : Gl X "isinstance") (hm : X.mg "isinstance" = none) (gy : Gl X y) (my : X.mg y = none) (hy : bootBuiltins y = some (.type u)) (nn : y ≠ "__name__" := by decide) (nd : (y == ("__debug__" : Str)) = false := by decide)
    (he : starEach [a, .Name y p2] X.env = (false, eval a X.env) :: starEach [.Name y p2] X.env := by rfl) (hpl : (backTo pos (starEach [.Name y p2] X.env)).any (·.1) = false := by rfl) : EJ X W (.Call (.Name "isinstance" p1) [a, .Name y p2] [] pos) (eIsi u f) :=
  PE.imp (pe_callB call_isi hg hm (by rfl) (pa_cons ha (pa_cons (pe_bltn (v := .ty u) gy my hy rfl nn nd) pa_nil) he) (he := he) (hpl := hpl)) fun _ _ _ h => eIsi_imp kt h
end

/-! ### minus -/
def eNeg (f : Es) : Es := fun env => match f env with
  | some (.ok q p e) => match pD p with
    | some (.int i) => some (.ok q (vInt (-i)) e)
    | _ => none
  | r => r
theorem ej_neg {X : Cx} {W : WX} {a : Expr} {f : Es} {pos : Pos} (ha : EJ X W a f) : EJ X W (.UnaryOp .USub a pos) (eNeg f) := PE.imp (pe_un un_neg ha) fun σ H Q h => by
  obtain ⟨env, R, P, S, r, sr, hr, post⟩ := h
  unfold eNeg at hr
  cases hf : f env with
  | none => rw [hf] at hr; cases hr
  | some rf =>
    rw [hf] at hr
    refine ⟨env, R, P, S, rf, sr, hf, ?_⟩
    cases rf with
    | x ex e => cases hr; exact post
    | ok q p e =>
      simp only at hr
      split at hr
      · rename_i i hi
        cases hr
        intro v R' H' S' Z st rv
        exact ⟨i, dat_int (pD_rep st.sr.rh st.sr.ph rv hi), post _ R' H' S' NoA (st.drop fun _ h => h.elim) (Rep.dat (.int _))⟩
      · cases hr

/-! ### chains -/
def eCh (op op' : PV → PV → Option PV) (fa fb fc : Es) : Es := fun env => match fa env with
  | some (.ok qa a e1) => match fb e1 with
    | some (.ok qb b e2) => if (a.held || qb) = true then
        match op a b with
        | some p => match pB p with
          | some true => match fc e2 with
            | some (.ok qc c e3) => if (b.held || qc) = true then (op' b c).map fun p => .ok (qa && (qb && qc)) p e3 else none
            | r => r
          | some false => some (.ok (qa && qb) (vBl false) e2)
          | none => none
        | none => none
      else none
    | r => r
  | r => r
theorem eCh_imp {K : PySem.W.Frag} {W : WX} {op op' : PV → PV → Option PV} {fa fb fc : Es} {σ : L2.St} {H : Hp} {Q : VK} (h : rdE K W (eCh op op' fa fb fc) σ H Q) : tChain (rOp K op) (rOp K op') (rdE K W fa) (rdE K W fb) (rdE K W fc) σ H Q := by
  obtain ⟨env, R, P, S, r, sr, hr, post⟩ := h
  unfold eCh at hr
  cases ha : fa env with
  | none => rw [ha] at hr; cases hr
  | some ra =>
    rw [ha] at hr
    refine ⟨env, R, P, S, ra, sr, ha, ?_⟩
    cases ra with
    | x ex e => cases hr; exact post
    | ok qa a e1 =>
      simp only at hr
      intro v1 R1 H1 S1 Z1 t1 p1
      cases hb : fb e1 with
      | none => rw [hb] at hr; cases hr
      | some rb =>
        rw [hb] at hr
        refine ⟨e1, R1, P, S1, rb, t1.sr, hb, ?_⟩
        cases rb with
        | x ex e => cases hr; exact fun c d R' H' S' s' f' ex' => post c d R' H' S' s' (t1.frX f') ex'
        | ok qb b e2 =>
          simp only at hr
          split at hr
          · rename_i hc
            cases ho : op a b with
            | none => rw [ho] at hr; cases hr
            | some p =>
              rw [ho] at hr
              simp only at hr
              cases hp : pB p with
              | none => rw [hp] at hr; cases hr
              | some k =>
                rw [hp] at hr
                intro v2 R2 H2 S2 Z2 t2 p2
                refine ⟨R2, P, S2, a, b, Z1, Z2, p, t2.sr.rh, t2.sr.ph, PvR.over t1 p1 t2 hc, p2, ho, fun z R' H' Z f pz => ?_⟩
                have t3 := t2.sr.step f
                refine ⟨k, pB_bl t3.sr.rh t3.sr.ph pz hp, ?_⟩
                cases k with
                | false =>
                  cases hr
                  rw [if_neg (by decide)]
                  have t := t1.next (t2.next t3)
                  rw [Bool.and_true] at t
                  exact post (.bl false) R' H' S2 NoA (t.drop fun _ h => h.elim) pvr_bl
                | true =>
                  rw [if_pos rfl]
                  simp only at hr
                  cases hf : fc e2 with
                  | none => rw [hf] at hr; cases hr
                  | some rc =>
                    rw [hf] at hr
                    refine ⟨e2, R', P, S2, rc, t3.sr, hf, ?_⟩
                    cases rc with
                    | x ex e => cases hr; exact fun c d R' H' S' s' f' ex' => post c d R' H' S' s' (t1.frX (t2.frX (t3.frX f'))) ex'
                    | ok qc c e3 =>
                      simp only at hr
                      split at hr
                      · rename_i hc2
                        cases ho2 : op' b c with
                        | none => rw [ho2] at hr; cases hr
                        | some p' =>
                          rw [ho2] at hr; cases hr
                          intro v4 R4 H4 S4 Z4 t4 p4
                          have t34 := t3.next t4
                          rw [Bool.true_and] at t34
                          refine ⟨R4, P, S4, b, c, Z2, Z4, p', t4.sr.rh, t4.sr.ph, PvR.over t2 p2 t34 hc2, p4, ho2, fun z R5 H5 Z5 f5 p5 => ?_⟩
                          have t := t1.next (t2.next (t34.next (t4.sr.step f5)))
                          rw [Bool.and_true] at t
                          exact post z R5 H5 S4 Z5 t p5
                      · cases hr
          · cases hr
section
variable {X : Cx} {W : WX} {a b c : Expr} {fa fb fc : Es} {pos : Pos} {o o' : CmpOp} {op op' : PV → PV → Option PV}
theorem ej_chain (ho : OpK X (compareOp o) op) (ho' : OpK X (compareOp o') op') (ha : EJ X W a fa) (hb : EJ X W b fb) (hc : EJ X W c fc) (hm : lastMarks [o, o'] [b, c] = false := by with_unfolding_all rfl) : EJ X W (.Compare a [o, o'] [b, c] pos) (eCh op op' fa fb fc) :=
  PE.imp (pe_chain ho ho' ha hb hc hm) fun _ _ _ h => eCh_imp h
theorem tj_chain (ho : OpK X (compareOp o) op) (ho' : OpK X (compareOp o') op') (ha : EJ X W a fa) (hb : EJ X W b fb) (hc : EJ X W c fc) (hm : lastMarks [o, o'] [b, c] = false := by with_unfolding_all rfl) : TJ X W (.Compare a [o, o'] [b, c] pos) (eCh op op' fa fb fc) :=
  PT.imp (pt_chain ho ho' ha hb hc hm) fun _ _ _ h => eCh_imp (rdT_E h)
end

/-! ### turned about: [::-1] -/
end VS
namespace HT
open PySem PySem.Spec PyProof.Rows L2
section
variable {prog : Program} {w : World} {A : Around} {E : Value → Shared → Prop} {s : Shared}
theorem sliceApplied_rev {sl : Addr} {vs : Value} {n : Nat} {Q : Int × Int × Nat → Shared → Prop} (hs : s.heap.IsSliceOf sl .none .none vs) (ps : IsPart vs (some (-1)))
    (h : Q ((n : Int) - 1, -1, n) s) : wpAny (model prog w) A (Builtin.Slice.sliceApplied (.ref sl) (pure (n : Int))) Q E s := by
  obtain ⟨os, hos, hcs, hds⟩ := id hs
  unfold Builtin.Slice.sliceApplied Builtin.Slice.sliceFields
  refine wpAny_bind (wpAny_bind (wpAny_field hos hds (x := .none) rfl (wpAny_bind (wpAny_field hos hds (x := .none) rfl (wpAny_bind (wpAny_field hos hds (x := vs) rfl (wpAny_pure ?_)))))))
  refine wpAny_bind (slicePart_ ps ?_)
  show wpAny _ _ (if ((-1 : Int) == 0) = true then _ else _) _ _ s
  rw [if_neg (by decide)]
  refine wpAny_bind (slicePart_none (wpAny_bind (slicePart_none (wpAny_bind (wpAny_pure ?_)))))
  show wpAny _ _ (pure ((n : Int) - 1, (-1 : Int), Builtin.Slice.slicePlaces ((n : Int) - 1) (-1) (-1))) _ _ s
  have e : Builtin.Slice.slicePlaces ((n : Int) - 1) (-1) (-1) = n := by
    unfold Builtin.Slice.slicePlaces
    rw [if_neg (by decide)]
    by_cases c : (n : Int) - 1 > -1
    · rw [if_pos c, show (- -1 : Int) = 1 by decide, Int.ediv_one]; omega
    · rw [if_neg c]; omega
  rw [e]
  exact wpAny_pure h
theorem pick_rev (xs : Array Value) : ((List.range xs.size).filterMap fun (k : Nat) => xs[(((xs.size : Int) - 1) + (k : Int) * (-1)).toNat]?).toArray = xs.toList.reverse.toArray := by
  congr 1
  rw [← PySem.W.krv_all xs, ← List.filterMap_reverse, ← PySem.W.krv_range, List.filterMap_map]
  have go : ∀ l : List Nat, (∀ k ∈ l, k < xs.size) → (l.filterMap fun (k : Nat) => xs[(((xs.size : Int) - 1) + (k : Int) * (-1)).toNat]?) = l.filterMap ((fun x => xs[x]?) ∘ fun k => xs.size - 1 - k) := by
    intro l
    induction l with
    | nil => intro _; rfl
    | cons k l ih =>
      intro h
      have hk := h k List.mem_cons_self
      have e : (((xs.size : Int) - 1) + (k : Int) * (-1)).toNat = xs.size - 1 - k := by omega
      rw [List.filterMap_cons, List.filterMap_cons, ih fun j hj => h j (List.mem_cons_of_mem _ hj), e]
      rfl
  exact go _ fun k hk => List.mem_range.mp hk
theorem getItem_tuple_rev {t sl : Addr} {items : Array Value} {vs : Value} {Q : Value → Shared → Prop} (ht : IsTup s.heap t items) (hs : s.heap.IsSliceOf sl .none .none vs) (ps : IsPart vs (some (-1)))
    (h : Q (.ref s.heap.objs.size) { s with heap := s.heap.push { cls := .type "tuple", data := .seq items.toList.reverse.toArray } })
    (hsz : items.size ≤ sizeLine) : wpAny (model prog w) A (getItem (.ref t) (.ref sl)) Q E s := by
  have htake : sizeOk (.seq items.toList.reverse.toArray) := by
    show items.toList.reverse.toArray.size ≤ sizeLine
    rw [List.size_toArray, List.length_reverse, Array.length_toList]
    exact hsz
  obtain ⟨os, hos, hcs, hds⟩ := id hs
  have hTs : s.TypeIs (.ref sl) "slice" := ⟨os, hos, hcs⟩
  unfold getItem
  try with_reducible refine wpAny_holding ?_
  first | refine wpAny_bind (wpAny_pure ?_) | skip
  refine wpAny_bind (wpAny_sequenceKey ht.typeIs (by decide) ?_)
  refine wpAny_bind (wpAny_callSpecial?_slot (name := Str.ofString "__getitem__") ht.typeIs PyProof.Rows.slot_tuple_getitem
    (wpAny_call_entry PyProof.Rows.slot_tuple_getitem ht.typeIs entry_tuple_getitem ?_ (args_tuple_getitem _ _)))
  show wpAny _ _ (Builtin.Tuple.tupleItemsOf (.ref t) >>= _) _ _ s
  refine wpAny_bind (tupleItemsOf_ ht ?_)
  refine wpAny_bind (wpAny_typeOf hTs ?_)
  rw [if_pos (by decide)]
  refine wpAny_bind (sliceApplied_rev hs ps ?_)
  have hno : ¬ (((((items.size : Nat) : Int) - 1 == 0) && ((-1 : Int) == 1) && (items.size == items.size)) = true) := by
    rw [show ((-1 : Int) == 1) = false by decide, Bool.and_false, Bool.false_and]
    decide
  show wpAny _ _ (if ((((items.size : Nat) : Int) - 1 == 0) && ((-1 : Int) == 1) && (items.size == items.size)) = true then _ else _) _ _ s
  rw [if_neg hno, pick_rev]
  first
    | exact wpAny_bind (m := Builtin.Tuple.tupleExact _) (wpAny_newObj_type (wpAny_pure ⟨_, rfl, wpAny_pure h⟩) htake)
    | exact wpAny_bind (m := Builtin.Tuple.tupleExact _) (wpAny_newObj_type (wpAny_bind (wpAny_pure (wpAny_pure ⟨_, rfl, wpAny_pure h⟩))) htake)
    | exact wpAny_bind (wpAny_bind (m := Builtin.Tuple.tupleExact _) (wpAny_newObj_type (wpAny_pure (wpAny_pure ⟨_, rfl, wpAny_pure h⟩)) htake))
    | exact wpAny_bind (wpAny_bind (m := Builtin.Tuple.tupleExact _) (wpAny_newObj_type (wpAny_pure ⟨_, rfl, wpAny_pure h⟩) htake))
end
end HT
namespace VS
open PySem PySem.Spec PyProof.Rows L2
def tRevA (K : PySem.W.Frag) (te : TE) : TE := fun σ H Q => te σ H fun x H1 => ∃ a xs, x = .ref a ∧ ((SqL K H1 a xs ∧ ∀ p, H1 p = none → Q (.ref p) (upd H1 p (.lst xs.reverse))) ∨ (SqT K H1 a xs ∧ ∀ p, H1 p = none → Q (.ref p) (upd H1 p (.tup xs.reverse))))
theorem pe_revA {X : Cx} {e : Expr} {te : TE} {k : Nat} {p1 p2 p3 pos : Pos} (he : PE X e te) : PE X (.Subscript e (.Slice none none (some (.UnaryOp .USub (.Constant (.int 1) k p1) p2)) p3) pos) (tRevA X.K te) := by
  refine ⟨fun pins s σ H Q I h => ?_⟩
  refine Subscript_ (thn (he.run pins s σ H _ I h) fun v s1 ⟨x, H1, I1, r1, q1⟩ => ?_)
  obtain ⟨a, xs, ex, q⟩ := q1
  subst ex
  cases r1
  have hst : PO X (some (.UnaryOp .USub (.Constant (.int 1) k p1) p2)) (tPart (tUn (rU fun i => .int (-i)) (tC (.int 1)))) := po_some (pe_un un_neg pe_int)
  refine wpAny_Slice (thn (po_none.run pins s1 σ H1 (fun o H2 => o = none ∧ H2 = H1) I1 ⟨rfl, rfl⟩) fun vl s2 ⟨l, H2, I2, pl, el, e2⟩ => ?_)
  subst el e2
  cases pl
  refine thn (po_none.run pins s2 σ H2 (fun o H3 => o = none ∧ H3 = H2) I2 ⟨rfl, rfl⟩) fun vu s3 ⟨u, H3, I3, pu, eu, e3⟩ => ?_
  subst eu e3
  cases pu
  refine thn (hst.run pins s3 σ H3 (fun o H4 => o = some (-1) ∧ H4 = H3) I3 ⟨1, rfl, -1, rfl, rfl, rfl⟩) fun vs s4 ⟨o, H4, I4, ps, eo, e4⟩ => ?_
  subst eo e4
  have I5 : Inv X pins σ H4 { s4 with heap := s4.heap.push { cls := .type "slice", data := .fields #[.none, .none, vs] } } := I4.kept (t' := s4.toks) fun b ob q => Heap.get?_push_of_some _ q
  show wpAny (model X.prog X.w) X.A (subscriptTail e (.Slice none none (some (.UnaryOp .USub (.Constant (.int 1) k p1) p2)) p3) (.ref a) (.ref s4.heap.objs.size)) (EP X pins σ Q) X.xe { s4 with heap := s4.heap.push { cls := .type "slice", data := .fields #[.none, .none, vs] } }
  rcases q with ⟨hx, q⟩ | ⟨hx, q⟩
  · obtain ⟨its, r, ht, hz⟩ := I5.list hx
    have hlen := r.length
    refine tail_any (ops := [.ref a, .ref s4.heap.objs.size]) ht.isList.typeIs (PySem.slot_list_getitem.lookup) ?_ (by with_unfolding_all rfl)
    refine wpAny_getItem_list_slice ht.isList (Heap.IsSliceOf.new _ .none .none vs) .none .none ps (by decide) ?_ (by rw [List.size_toArray]; omega)
    rw [PySem.W.krv_pick]
    refine ⟨.ref _, _, I5.laid (t' := s4.toks) (o := .lst xs.reverse) (fun b ob q => Heap.get?_push_of_some _ q) (Nat.le_refl _) ?_, rfl, q _ (I5.hok.fresh (Nat.le_refl _))⟩
    exact ⟨by rw [List.length_reverse]; exact hz, _, 0, r.reverse, Heap.get?_push_size _ rfl⟩
  · obtain ⟨its, r, ht, hz⟩ := I5.tuple hx
    have hlen := r.length
    refine tail_any (ops := [.ref a, .ref s4.heap.objs.size]) ht.typeIs (PyProof.Rows.slot_tuple_getitem.lookup) ?_ (by with_unfolding_all rfl)
    refine HT.getItem_tuple_rev ht (Heap.IsSliceOf.new _ .none .none vs) ps ?_ (by rw [List.size_toArray]; omega)
    refine ⟨.ref _, _, I5.laid (t' := s4.toks) (o := .tup xs.reverse) (fun b ob q => Heap.get?_push_of_some _ q) (Nat.le_refl _) ?_, rfl, q _ (I5.hok.fresh (Nat.le_refl _))⟩
    exact ⟨by rw [List.length_reverse]; exact hz, _, r.reverse, IsTup.new _ _⟩
def opRev (p : PV) : Option PV := match p.tr with
  | .scr ns => some (vNew ((ns.map .int).reverse))
  | _ => match pL p with
    | some ds => some (vNew ds.reverse)
    | none => (pTu p).map fun ds => vDat (.tuple ds.reverse)
def eRev (f : Es) : Es := fun env => match f env with
  | some (.ok q p e) => (opRev p).map fun p' => .ok q p' e
  | r => r
theorem ej_rev {X : Cx} {W : WX} {a : Expr} {f : Es} {k : Nat} {p1 p2 p3 pos : Pos} (ha : EJ X W a f) : EJ X W (.Subscript a (.Slice none none (some (.UnaryOp .USub (.Constant (.int 1) k p1) p2)) p3) pos) (eRev f) := PE.imp (pe_revA ha) fun σ H Q h => by
  obtain ⟨env, R, P, S, r, sr, hr, post⟩ := h
  unfold eRev at hr
  cases hf : f env with
  | none => rw [hf] at hr; cases hr
  | some rf =>
    rw [hf] at hr
    refine ⟨env, R, P, S, rf, sr, hf, ?_⟩
    cases rf with
    | x ex e => cases hr; exact post
    | ok q p e =>
      simp only at hr
      cases ho : opRev p with
      | none => rw [ho] at hr; cases hr
      | some p' =>
        rw [ho] at hr; cases hr
        intro v R' H' S' Z st rv
        have go : ∀ {z : V} {R2 H2 : Hp} {Z2 : ASet}, PF R' H' R2 H2 Z2 → PvR X.K R2 P H2 S' p' z Z2 → Q z H2 := fun pf pz => by
          have t := st.next (st.sr.step pf)
          rw [Bool.and_true] at t
          exact post _ _ _ S' _ t pz
        have newL : ∀ {A : Addr} {xs : List V} {ds : List D}, SqL X.K H' A xs → DatAll (Reg R') xs ds → p' = vNew ds.reverse → ∃ a ys, (V.ref A) = .ref a ∧ ((SqL X.K H' a ys ∧ ∀ p, H' p = none → Q (.ref p) (upd H' p (.lst ys.reverse))) ∨ (SqT X.K H' a ys ∧ ∀ p, H' p = none → Q (.ref p) (upd H' p (.tup ys.reverse)))) :=
          fun h1 h2 e => ⟨_, _, rfl, .inl ⟨h1, fun a ha => go (PF.own st.sr.rh ha) (by rw [e]; exact rep_new h2.reverse)⟩⟩
        unfold opRev at ho
        split at ho
        · rename_i ns ea
          cases ho
          obtain ⟨G, S0, g, r⟩ := rv.look st.sr.ph
          rw [ea] at r
          cases r with
          | scr h => exact newL (st.sr.rh.sqL h) (datAll_ints ns) rfl
        · split at ho
          · rename_i ds hl
            cases ho
            obtain ⟨A, vs, rfl, h1, h2⟩ := pL_rep st.sr.rh st.sr.ph rv hl
            exact newL (SqL.of h1) h2 rfl
          · cases ht : pTu p with
            | none => rw [ht] at ho; cases ho
            | some ds =>
              rw [ht] at ho; cases ho
              obtain ⟨A, vs, rfl, h1, h2⟩ := pTu_rep st.sr.ph rv ht
              refine ⟨A, vs, rfl, .inr ⟨SqT.of (st.sr.rh.ex h1 rfl), fun a ha => ?_⟩⟩
              have n : R' a = none := st.sr.rh.no ha
              exact go (PF.reg st.sr.rh ha) (Rep.dat (.tup upd_same (h2.reverse.mono fun b o e => Sub.upd n b o e)))

/-! ### sorted -/
def sortD (ds : List D) : List D := ds.mergeSort (PySem.W.dataLe false id)
def alikeOk (ds : List D) : Bool := ds.all fun d => ds.all fun e => PySem.W.alike d e
def isTupC : D → Bool
  | .tuple (_ :: _) => true
  | _ => false
def isSortA : D → Bool
  | .none => false
  | .tuple _ => false
  | _ => true
def sortOk (ds : List D) : Bool := alikeOk ds && (ds.all isTupC || ds.all isSortA) && !PyData.hasDictAll ds && decide (PyData.depthAll ds ≤ 50)
theorem alikeOk_of {ds : List D} (h : alikeOk ds = true) : PySem.W.AllAlike ds := fun d hd d' hd' => List.all_eq_true.mp (List.all_eq_true.mp h d hd) d' hd'
theorem sortA_of {ds : List D} (h : (ds.all isTupC || ds.all isSortA) = true) : PySem.W.Sortable ds := by
  rcases Bool.or_eq_true_iff.mp h with h | h
  · refine .inl fun d hd => ?_
    have := List.all_eq_true.mp h d hd
    unfold isTupC at this
    split at this
    · exact ⟨_, _, rfl⟩
    · cases this
  · refine .inr fun d hd => ?_
    have := List.all_eq_true.mp h d hd
    unfold isSortA at this
    split at this
    · cases this
    · cases this
    · rename_i n1 n2
      exact ⟨n1, n2⟩
theorem depth_mem : ∀ {ds : List D} {d : D}, d ∈ ds → d.depth ≤ PyData.depthAll ds
  | [], _, h => nomatch h
  | e :: ds, d, h => by
    rw [PyData.depthAll]
    rcases List.mem_cons.mp h with rfl | h
    · exact Nat.le_max_left _ _
    · exact Nat.le_trans (depth_mem h) (Nat.le_max_right _ _)
theorem hasDict_mem : ∀ {ds : List D} {d : D}, PyData.hasDictAll ds = false → d ∈ ds → d.hasDict = false
  | [], _, _, h => nomatch h
  | e :: ds, d, n, h => by
    rw [PyData.hasDictAll, Bool.or_eq_false_iff] at n
    rcases List.mem_cons.mp h with rfl | h
    · exact n.1
    · exact hasDict_mem n.2 h
theorem datAll_zip {M : Rdr} : ∀ {vs : List V} {ds : List D}, DatAll M vs ds → ∀ p ∈ vs.zip ds, Dat M p.1 p.2
  | _, _, .nil, _, h => nomatch h
  | _, _, .cons a b, p, h => by
    rcases List.mem_cons.mp h with rfl | h
    · exact a
    · exact datAll_zip b p h
theorem datAll_of {M : Rdr} : ∀ {ps : List (V × D)}, (∀ p ∈ ps, Dat M p.1 p.2) → DatAll M (ps.map (·.1)) (ps.map (·.2))
  | [], _ => .nil
  | p :: ps, h => .cons (h p List.mem_cons_self) (datAll_of fun q hq => h q (List.mem_cons_of_mem _ hq))
theorem each_vals : ∀ {us : List Value} {ps : List (V × D)}, PySem.W.EachIs (fun u (p : V × D) => RelV p.1 u) us ps → Vals (ps.map (·.1)) us
  | _, _, .nil => .nil
  | _, _, .cons a b => .cons a (each_vals b)
theorem each_of {F : Value → V × D → Prop} : ∀ {vs : List V} {ds : List D} {us : List Value}, vs.length = ds.length → Vals vs us → (∀ u (p : V × D), p ∈ vs.zip ds → RelV p.1 u → F u p) → PySem.W.EachIs F us (vs.zip ds)
  | [], [], _, _, .nil, _ => .nil
  | _ :: _, _ :: _, _, l, .cons r t, f => .cons (f _ _ List.mem_cons_self r) (each_of (by simpa using l) t fun u p h => f u p (List.mem_cons_of_mem _ h))
  | [], _ :: _, _, l, _, _ => by simp at l
  | _ :: _, [], _, l, _, _ => by simp at l
theorem cr_sortedD {X : Cx} (hu : X.A.units + 64 < cLine) : CallR X (.builtin "sorted") (fun xs H Q => ∃ a vs ds, xs = [V.ref a] ∧ SqL X.K H a vs ∧ DatAll (Rdd H) vs ds ∧ sortOk ds = true ∧
    ∀ (ps : List (V × D)) (p : Addr), (∀ q ∈ ps, q ∈ vs.zip ds) → ps.map (·.2) = sortD ds → H p = none → Q (.ref p) (upd H p (.lst (ps.map (·.1))))) := by
  intro pins s σ H xs us Q I r h
  obtain ⟨a, vs, ds, rfl, hs, hd, ho, q⟩ := h
  obtain ⟨its, rv, hl, hz⟩ := I.list hs
  rw [Vals.ref1 r]
  unfold sortOk at ho
  simp only [Bool.and_eq_true, Bool.not_eq_true', decide_eq_true_eq] at ho
  obtain ⟨⟨⟨h1, h2⟩, h3⟩, h4⟩ := ho
  have hlen := hd.length
  have em : (vs.zip ds).map (·.2) = ds := List.map_snd_zip (by omega)
  have e1 : PySem.W.EachIs (fun u (p : V × D) => RelV p.1 u) its (vs.zip ds) := each_of hlen rv fun _ _ _ r => r
  have e2 : PySem.W.EachIs (fun u (p : V × D) => ∃ as, Reads s.heap u p.2 as) its (vs.zip ds) := each_of hlen rv fun u p hp r => (datAll_zip hd p hp).reads I r (hasDict_mem h3 (List.of_mem_zip hp).2)
  refine PySem.W.sorted_data (enc := fun p : V × D => p.2) hl.isList e1 e2 (by rw [em]; exact alikeOk_of h1) (by rw [em]; exact sortA_of h2) (by rw [List.length_zip]; omega) (fun b hb => ?_) fun out hn he => ?_
  · have := depth_mem (List.of_mem_zip hb).2
    omega
  · obtain ⟨ep, hat⟩ := PyProof.Rows.sortedAll_at s.heap its out.toArray
    have hv := each_vals he
    have hlen2 : (((vs.zip ds).mergeSort (PySem.W.dataLe false fun p : V × D => p.2)).map (·.1)).length ≤ sizeLine := by
      rw [List.length_map, List.length_mergeSort, List.length_zip]
      omega
    refine ⟨.ref _, upd H (s.heap.objs.size + 1) (.lst (((vs.zip ds).mergeSort (PySem.W.dataLe false fun p : V × D => p.2)).map (·.1))), I.laid (t' := s.toks) (fun _ _ => PyProof.Rows.sortedAll_old) (Nat.le_succ _) ⟨hlen2, out, ep, hv, hat⟩, rfl, q _ _ (fun p hp => ?_) ?_ (I.hok.fresh (Nat.le_succ _))⟩
    · exact List.mem_mergeSort.mp hp
    · unfold sortD
      have e := List.map_mergeSort (r := PySem.W.dataLe false fun p : V × D => p.2) (s := PySem.W.dataLe false id) (f := fun p : V × D => p.2) (l := vs.zip ds) (fun a _ b _ => rfl)
      rw [em] at e
      exact e
def bSort (p : PV) : Option PV := match p.tr with
  | .scr ns => if sortOk (ns.map .int) = true then some (vNew (sortD (ns.map .int))) else none
  | _ => match pL p with
    | some ds => if sortOk ds = true then some (vNew (sortD ds)) else none
    | none => none
theorem cl_sort {X : Cx} (hu : X.A.units + 64 < cLine) : CallK X (.builtin "sorted") (on1 bSort) := callK1 (cr_sortedD hu) fun {R P H S Z p q x Q} rh ph ra e k => by
  have go : ∀ {A : Addr} {vs : List V} {ds : List D}, SqL X.K H A vs → DatAll (Reg R) vs ds → sortOk ds = true → q = vNew (sortD ds) → ∃ a vs ds, [V.ref A] = [V.ref a] ∧ SqL X.K H a vs ∧ DatAll (Rdd H) vs ds ∧ sortOk ds = true ∧
    ∀ (ps : List (V × D)) (p : Addr), (∀ q ∈ ps, q ∈ vs.zip ds) → ps.map (·.2) = sortD ds → H p = none → Q (.ref p) (upd H p (.lst (ps.map (·.1)))) :=
    fun {A vs ds} h1 h2 h3 e => ⟨A, vs, ds, rfl, h1, h2.mono rh, h3, fun ps l hp hm hl => by
      subst e
      refine k _ R _ _ (PF.own rh hl) ?_
      rw [← hm]
      exact rep_new (datAll_of fun p h => datAll_zip h2 p (hp p h))⟩
  unfold bSort at e
  split at e
  · rename_i ns ea
    split at e
    · rename_i hs
      cases e
      obtain ⟨G, S0, g, r⟩ := ra.look ph
      rw [ea] at r
      cases r with
      | scr h => exact go (rh.sqL h) (datAll_ints ns) hs rfl
    · cases e
  · split at e
    · rename_i ds hl
      split at e
      · rename_i hs
        cases e
        obtain ⟨A, vs, rfl, h1, h2⟩ := pL_rep rh ph ra hl
        exact go (SqL.of h1) h2 hs rfl
      · cases e
    · cases e
end VS

set_option Elab.async false
set_option linter.all false
set_option maxRecDepth 100000
/-! Value semantics, 16: what a slot holds is changed in its place. -/
namespace VS
open PySem PySem.Spec PyProof.Rows L2

/-! ### lists of trees: cut, joined, one exchanged -/
section
variable {K : PySem.W.Frag} {R H : Hp}
theorem RepAll.join : ∀ {ts us : List T} {vs ws : List V} {S S' : ASet}, RepAll K R H ts vs S → RepAll K R H us ws S' → Apart S S' → ∃ S2, RepAll K R H (ts ++ us) (vs ++ ws) S2 ∧ ∀ a, S2 a ↔ S a ∨ S' a
  | _, _, _, _, _, S', .nil, s, _ => ⟨S', s, fun a => ⟨.inr, fun h => h.elim False.elim id⟩⟩
  | _, _, _, _, _, S', .cons (S := Sa) (S' := Sb) a b n, s, ap => by
    obtain ⟨S2, h, e⟩ := b.join s fun x p q => ap x (.inr p) q
    refine ⟨_, .cons a h fun x p q => ((e x).mp q).elim (n x p) (ap x (.inl p)), fun x => ?_⟩
    constructor
    · rintro (p | p)
      · exact .inl (.inl p)
      · exact ((e x).mp p).imp_left .inr
    · rintro ((p | p) | p)
      · exact .inl p
      · exact .inr ((e x).mpr (.inl p))
      · exact .inr ((e x).mpr (.inr p))
theorem RepAll.split : ∀ {ts us : List T} {zs : List V} {S : ASet}, RepAll K R H (ts ++ us) zs S → ∃ vs ws S1 S2, zs = vs ++ ws ∧ vs.length = ts.length ∧ RepAll K R H ts vs S1 ∧ RepAll K R H us ws S2 ∧ Apart S1 S2 ∧ ∀ a, S a ↔ S1 a ∨ S2 a
  | [], us, zs, S, h => ⟨[], zs, NoA, S, rfl, rfl, .nil, h, noA_apart, fun a => ⟨.inr, fun h => h.elim False.elim id⟩⟩
  | t :: ts, us, _, _, .cons (v := v) (S := Sa) (S' := Sb) a b n => by
    obtain ⟨vs, ws, S1, S2, e, l, h1, h2, ap, k⟩ := b.split
    subst e
    refine ⟨v :: vs, ws, _, S2, rfl, congrArg (· + 1) l, .cons a h1 fun x p q => n x p ((k x).mpr (.inl q)), h2, fun x p q => ?_, fun x => ?_⟩
    · exact p.elim (fun p => n x p ((k x).mpr (.inr q))) fun p => ap x p q
    · constructor
      · rintro (p | p)
        · exact .inl (.inl p)
        · exact ((k x).mp p).imp_left .inr
      · rintro ((p | p) | p)
        · exact .inl p
        · exact .inr ((k x).mpr (.inl p))
        · exact .inr ((k x).mpr (.inr p))
theorem RepAll.one {t : T} {v : V} {S : ASet} (h : Rep K R H t v S) : RepAll K R H [t] [v] S := by
  have z := RepAll.cons h (RepAll.nil (K := K) (R := R) (H := H)) fun _ _ q => q.elim
  have e : TwoA S NoA = S := funext fun a => propext ⟨fun h => h.elim id False.elim, .inl⟩
  rw [e] at z
  exact z
theorem RepAll.the {t : T} {zs : List V} {S : ASet} (h : RepAll K R H [t] zs S) : ∃ v, zs = [v] ∧ Rep K R H t v S := by
  cases h with
  | cons a b _ => cases b; exact ⟨_, rfl, by
      have e : ∀ S : ASet, TwoA S NoA = S := fun S => funext fun a => propext ⟨fun h => h.elim id False.elim, .inl⟩
      rw [e]; exact a⟩
theorem RepAll.put : ∀ {ts : List T} {vs : List V} {S : ASet} {i : Nat} {t : T} {v : V} {Z : ASet}, RepAll K R H ts vs S → i < ts.length → Rep K R H t v Z → Apart Z S → ∃ S', RepAll K R H (ts.set i t) (vs.set i v) S' ∧ ∀ a, S' a → S a ∨ Z a
  | _, _, _, _, _, _, _, .nil, h, _, _ => absurd h (by simp)
  | _, _, _, 0, t, v, Z, .cons (S' := S') a b _, _, r, n => ⟨_, .cons r b fun x h k => n x h (.inr k), fun a h => h.elim .inr fun k => .inl (.inr k)⟩
  | _, _, _, i + 1, t, v, Z, .cons (S := S1) a b n1, h, r, n => by
    obtain ⟨S', x, y⟩ := RepAll.put (i := i) b (by simpa using h) r fun x h k => n x h (.inr k)
    exact ⟨_, .cons a x fun z h k => (y z k).elim (n1 z h) fun q => n z q (.inl h), fun z h => h.elim (fun k => .inl (.inl k)) fun k => (y z k).elim (fun k => .inl (.inr k)) .inr⟩
end

/-! ### a slot's node -/
section
variable {K : PySem.W.Frag} {R P H : Hp} {S : ASet} {σ : L2.St} {env : List T}
theorem set_same {α : Type} : ∀ {l : List α} {i : Nat} {x : α}, l[i]? = some x → l.set i x = l
  | [], _, _, e => by simp at e
  | _ :: _, 0, _, e => by simp at e; subst e; rfl
  | a :: l, i + 1, x, e => by
    have := set_same (l := l) (i := i) (x := x) (by simpa using e)
    show a :: l.set i x = _
    rw [this]
theorem SR.node (sr : SR K env σ R P H S) {i : Nat} {t : T} (ht : env[i]? = some t) (nu : t ≠ .un) (nv : ∀ u, t ≠ .vw u) :
    ∃ v Z S0, σ[i]? = some (some v) ∧ Rep K R H t v Z ∧ (∀ a, Z a → R a = none ∧ P a = none) ∧ Apart Z S0 ∧ (∀ a, S a ↔ S0 a ∨ Z a) ∧
      ∀ {H' : Hp} {t' : T} {Z' Zx : ASet}, (∀ b, ¬ Z b → H' b = H b) → Rep K R H' t' v Z' → (∀ b, Z' b → Z b ∨ Zx b) → Apart Zx S → (∀ b, Zx b → R b = none ∧ P b = none) →
        ∃ S', SR K (env.set i t') σ R P H' S' ∧ (∀ b, S' b → S0 b ∨ Z' b) := by
  rcases sr.sl.take ht with h | ⟨v, Z, S0, h1, h2, h3, h4, h5⟩
  · exact (nu h).elim
  · cases h2 with
    | vw _ => exact (nv _ rfl).elim
    | own h2 =>
      refine ⟨v, Z, S0, h1, h2, fun a h => sr.sf a ((h5 a).mpr (.inr h)), h4, h5, fun {H' t' Z' Zx} same r sub ap zf => ?_⟩
      have zn : ∀ a, Z a → R a = none ∧ P a = none := fun a h => sr.sf a ((h5 a).mpr (.inr h))
      have m := h3.mono (Sub.refl R) fun a h => same a fun z => h4 a z h
      obtain ⟨S', x, y⟩ := m.put (i := i) (t := t') (v := v) (Z := Z') (by rw [List.length_set]; exact (List.getElem?_eq_some_iff.mp ht).1) (.own r) fun a p q => (sub a p).elim (fun z => h4 a z q) fun z => ap a z ((h5 a).mpr (.inl q))
      rw [List.set_set, set_same h1] at x
      refine ⟨S', ⟨x, fun a o e => ?_, fun a o e => ?_, fun a h => ?_⟩, y⟩
      · have : ¬ Z a := fun z => by rw [(zn a z).1] at e; cases e
        have q := sr.rh a o e
        unfold Rdd at q ⊢
        rw [same a this]
        exact q
      · have : ¬ Z a := fun z => by rw [(zn a z).2] at e; cases e
        have q := sr.ph a o e
        unfold Rdd at q ⊢
        rw [same a this]
        exact q
      · rcases y a h with z | z
        · exact sr.sf a ((h5 a).mpr (.inl z))
        · exact (sub a z).elim (zn a) (zf a)
end

/-! ### built-in methods that change the slot's node -/
def MutK (K : PySem.W.Frag) (r : V → List V → Hp → VK → Prop) (mo : T → List PV → Option (T × T)) : Prop :=
  ∀ {R P H : Hp} {S Z Zx : ASet} {t t' u : T} {v : V} {ps : List PV} {vs : List V} {Q : VK}, RSub R H → RSub P H → Rep K R H t v Z → (∀ a, Z a → R a = none ∧ P a = none) → PvsR K R P H S ps vs Zx → Apart Zx Z → mo t ps = some (t', u) →
    (∀ z H' Z' Z3, (∀ b, ¬ Z b → H' b = H b) → Rep K R H' t' v Z' → Rep K R H' u z Z3 → Apart Z3 Z' → (∀ b, Z' b → Z b ∨ Zx b) → (∀ b, Z3 b → Z b ∨ Zx b) → Q z H') → r v vs H Q
def isL : T → Bool
  | .lst _ => true
  | _ => false
def isDc : T → Bool
  | .dct _ => true
  | _ => false
/-- slot.method(..) -/
def eMut (k : T → Bool) (i : Nat) (mo : T → List PV → Option (T × T)) (g : As) : Es := fun env => match env[i]? with
  | some t0 => if k t0 = true then match g env with
      | some (.ok _ l e) => match e[i]? with
        | some t => if k t = true then ((valsA l).bind (mo t)).map fun r => .ok false (.fr r.2) (e.set i r.1) else none
        | none => none
      | some (.x ex e) => some (.x ex e)
      | none => none
    else none
  | none => none
structure KindOk (K : PySem.W.Frag) (k : T → Bool) (ty : String) : Prop where
  ty : ∀ {R H : Hp} {t : T} {v : V} {Z : ASet}, k t = true → Rep K R H t v Z → tyV K ty v H
  un : k .un = false
  vw : ∀ u, k (.vw u) = false
theorem tyL {K : PySem.W.Frag} {R H : Hp} {t : T} {v : V} {Z : ASet} (h : isL t = true) (r : Rep K R H t v Z) : tyV K "list" v H := by
  cases r with
  | lst h1 _ _ => exact .inl ⟨rfl, _, SqL.of h1⟩
  | _ => cases h
theorem kindL {K : PySem.W.Frag} : KindOk K isL "list" := ⟨tyL, rfl, fun _ => rfl⟩
theorem tyDc {K : PySem.W.Frag} {R H : Hp} {t : T} {v : V} {Z : ASet} (h : isDc t = true) (r : Rep K R H t v Z) : tyV K "dict" v H := by
  cases r with
  | dK h1 _ _ => exact .inr (.inr (.inl ⟨rfl, .inl ⟨_, h1⟩⟩))
  | dT h1 _ _ => exact .inr (.inr (.inl ⟨rfl, .inr ⟨_, h1⟩⟩))
  | _ => cases h
theorem kindD {K : PySem.W.Frag} : KindOk K isDc "dict" := ⟨tyDc, rfl, fun _ => rfl⟩
section
variable {K : PySem.W.Frag} {W : WX} {k : T → Bool} {ty : String} {i : Nat} {mo : T → List PV → Option (T × T)} {g : As} {σ : L2.St} {H : Hp} {Q : VK} {r : V → List V → Hp → VK → Prop}
theorem eMut_imp (ko : KindOk K k ty) (mk : MutK K r mo) (h : rdE K W (eMut k i mo g) σ H Q) : tBM K ty r (tVar i) (rdA K W g) σ H Q := by
  obtain ⟨env, R, P, S, rr, sr, hr, post⟩ := h
  unfold eMut at hr
  cases h0 : env[i]? with
  | none => rw [h0] at hr; cases hr
  | some t0 =>
    rw [h0] at hr
    simp only at hr
    split at hr
    · rename_i k0
      obtain ⟨v, Z0, S0, hv, r0, _⟩ := sr.node h0 (fun e => by rw [e, ko.un] at k0; cases k0) (fun u e => by rw [e, ko.vw] at k0; cases k0)
      refine ⟨v, hv, ko.ty k0 r0, ?_⟩
      cases hg : g env with
      | none => rw [hg] at hr; cases hr
      | some rg =>
        rw [hg] at hr
        refine ⟨env, R, P, S, rg, sr, hg, ?_⟩
        cases rg with
        | x ex e => cases hr; exact post
        | ok q l e =>
          simp only at hr
          cases h1 : e[i]? with
          | none => rw [h1] at hr; cases hr
          | some t =>
            rw [h1] at hr
            simp only at hr
            split at hr
            · rename_i k1
              cases hl : valsA l with
              | none => rw [hl] at hr; cases hr
              | some ps =>
                rw [hl] at hr
                simp only [Option.bind_some] at hr
                cases hm : mo t ps with
                | none => rw [hm] at hr; cases hr
                | some p =>
                  rw [hm] at hr; cases hr
                  obtain ⟨t', u⟩ := p
                  intro vs R1 H1 S1 Zx st as
                  obtain ⟨v', Z, S2, hv', r1, zn, ap2, e2, go⟩ := st.sr.node h1 (fun e => by rw [e, ko.un] at k1; cases k1) (fun u e => by rw [e, ko.vw] at k1; cases k1)
                  rw [hv] at hv'; cases hv'
                  have pa := valsA_rep as hl
                  refine mk st.sr.rh st.sr.ph r1 zn pa (fun a p q => st.ap a p ((e2 a).mpr (.inr q))) hm fun z H' Z' Z3 same rt ru ap sub sub3 => ?_
                  obtain ⟨S', sr', sub'⟩ := go same rt sub st.ap st.zf
                  refine post z R1 H' S' Z3 ⟨sr', fun a p q => ?_, fun a p => ?_, ?_, fun e => nomatch e⟩ ru
                  · rcases sub' a q with q | q
                    · rcases sub3 a p with p | p
                      · exact ap2 a p q
                      · exact st.ap a p ((e2 a).mpr (.inl q))
                    · exact ap a p q
                  · exact (sub3 a p).elim (zn a) (st.zf a)
                  · refine st.fr.trans ⟨fun a o e n => ?_, Sub.refl R1, fun a h => .inl h, fun a h => ?_⟩
                    · rw [same a fun z => n (.inl ((e2 a).mpr (.inr z)))]; exact e
                    · refine .inl ?_
                      rcases h with h | h
                      · rcases sub' a h with h | h
                        · exact .inl ((e2 a).mpr (.inl h))
                        · exact (sub a h).imp (fun z => (e2 a).mpr (.inr z)) id
                      · exact (sub3 a h).imp (fun z => (e2 a).mpr (.inr z)) id
            · cases hr
    · cases hr
theorem eMut0_imp (ko : KindOk K k ty) (mk : MutK K r mo) (h : rdE K W (eMut k i mo aNil) σ H Q) : tBM0 K ty r (tVar i) σ H Q := by
  obtain ⟨v, hv, t, q⟩ := eMut_imp ko mk h
  exact ⟨v, hv, t, aNil_imp q⟩
end
section
variable {X : Cx} {W : WX} {k : T → Bool} {T0 id : String} {name x : Str} {mo : T → List PV → Option (T × T)} {g : As} {r : V → List V → Hp → VK → Prop} {e : Expr} {es : List Expr} {p apos cpos : Pos}
theorem ej_mut (ko : KindOk X.K k T0) (mk : MutK X.K r mo) (pa : PlainAttrs T0) (slot : Slot T0 name id) (hty : typeOf (.builtin id) = pure (.type "method_descriptor")) (hm : MtR X id r) (i : Nat) (ha : AJ X W (e :: es) g)
    (hN : X.N[i]? = some x := by rfl) (hv : Vis X.env.scope x := by first | exact Or.inl rfl | exact Or.inr (Or.inl rfl) | exact Or.inr (Or.inr rfl))
    (hd : (x == ("__debug__" : Str)) = false := by decide) (hcd : (x == ("__classdict__" : Str)) = false := by decide)
    (hbase : attributeBase (.Name x p) name X.env (eval (.Name x p) X.env) = eval (.Name x p) X.env := by rfl)
    (hfew : ((backTo cpos (starEach (e :: es) X.env)).all (fun x => !x.1) && (backToKw cpos (keywordEach [] X.env)).all (fun x => x.1.isSome)
      && decide ((e :: es).length + ([] : List Keyword).length + (if ([] : List Keyword).isEmpty then 0 else 1) < 30)) = true := by rfl)
    (hline : (apos.endLine == cpos.line) = true := by rfl) (hs : starEach (e :: es) X.env = (false, eval e X.env) :: starEach es X.env := by rfl) (hplain : (backTo cpos (starEach es X.env)).any (·.1) = false := by rfl) :
    EJ X W (.Call (.Attribute (.Name x p) name apos) (e :: es) [] cpos) (eMut k i mo g) :=
  PE.imp (pe_bm pa slot hty hm (pe_var (i := i) hN hv hd hcd) ha hbase hfew hline hs hplain) fun _ _ _ h => eMut_imp ko mk h
theorem ej_mut0 (ko : KindOk X.K k T0) (mk : MutK X.K r mo) (pa : PlainAttrs T0) (slot : Slot T0 name id) (hty : typeOf (.builtin id) = pure (.type "method_descriptor")) (hm : MtR X id r) (i : Nat)
    (hN : X.N[i]? = some x := by rfl) (hv : Vis X.env.scope x := by first | exact Or.inl rfl | exact Or.inr (Or.inl rfl) | exact Or.inr (Or.inr rfl))
    (hd : (x == ("__debug__" : Str)) = false := by decide) (hcd : (x == ("__classdict__" : Str)) = false := by decide)
    (hbase : attributeBase (.Name x p) name X.env (eval (.Name x p) X.env) = eval (.Name x p) X.env := by rfl) (hline : (apos.endLine == cpos.line) = true := by rfl) :
    EJ X W (.Call (.Attribute (.Name x p) name apos) [] [] cpos) (eMut k i mo aNil) :=
  PE.imp (pe_bm0 pa slot hty hm (pe_var (i := i) hN hv hd hcd) hbase hline) fun _ _ _ h => eMut0_imp ko mk h
end

/-! ### the lists' own -/
theorem PvsR.one {K : PySem.W.Frag} {R P H : Hp} {S Z : ASet} {p : PV} {vs : List V} (h : PvsR K R P H S [p] vs Z) : ∃ v, vs = [v] ∧ PvR K R P H S p v Z := by
  cases h with
  | cons a b _ => cases b; exact ⟨_, rfl, by
      have e : ∀ S : ASet, TwoA S NoA = S := fun S => funext fun a => propext ⟨fun h => h.elim id False.elim, .inl⟩
      rw [e]; exact a⟩
def moAppend : T → List PV → Option (T × T)
  | .lst ts, [.fr t] => if ts.length < sizeLine then some (.lst (ts ++ [t]), .dat .none) else none
  | _, _ => none
theorem mk_append {K : PySem.W.Frag} : MutK K rAppend moAppend := by
  intro R P H S Z Zx t t' u v ps vs Q rh ph r zn as ap e post
  unfold moAppend at e
  split at e
  · rename_i ts x
    split at e
    · rename_i hl
      cases e
      obtain ⟨y, rfl, ry⟩ := as.one
      cases r with
      | lst h1 h2 h3 =>
        rename_i a vs S1
        have ne : ∀ b, S1 b → b ≠ a := fun b q e => h3 (e ▸ q)
        have ry : Rep K R H x y Zx := ry
        refine ⟨a, vs, y, rfl, rfl, h1, by rw [h2.len]; exact hl, ?_⟩
        have m1 := h2.mono (Sub.refl R) (H' := upd H a (.lst (vs ++ [y]))) fun b q => upd_ne (ne b q)
        have m2 := ry.mono (Sub.refl R) (H' := upd H a (.lst (vs ++ [y]))) fun b q => upd_ne fun e => ap b q (.inl e)
        obtain ⟨S2, j, k⟩ := m1.join (RepAll.one m2) fun b p q => ap b q (.inr p)
        refine post .non _ (OneA a S2) NoA (fun b q => upd_ne fun e => q (.inl e)) (.lst upd_same j fun q => ?_) (.dat .non) noA_apart (fun b q => ?_) fun b q => q.elim
        · rcases (k a).mp q with q | q
          · exact h3 q
          · exact ap a q (.inl rfl)
        · rcases q with q | q
          · exact .inl (.inl q)
          · exact ((k b).mp q).imp .inr id
    · cases e
  · cases e
def moExtend : T → List PV → Option (T × T)
  | .lst ts, [p] => match pL p with
    | some ds => if ts.length + ds.length ≤ sizeLine then some (.lst (ts ++ ds.map .dat), .dat .none) else none
    | none => match p with
      | .fr (.lst us) => if ts.length + us.length ≤ sizeLine then some (.lst (ts ++ us), .dat .none) else none
      | _ => none
  | _, _ => none
theorem mk_extend {K : PySem.W.Frag} : MutK K rExtend moExtend := by
  intro R P H S Z Zx t t' u v ps vs Q rh ph r zn as ap e post
  unfold moExtend at e
  split at e
  · rename_i ts p
    obtain ⟨y, rfl, ry⟩ := as.one
    cases r with
    | lst h1 h2 h3 =>
      rename_i a vs S1
      have ne : ∀ b, S1 b → b ≠ a := fun b q e => h3 (e ▸ q)
      split at e
      · rename_i ds hd
        split at e
        · rename_i hl
          cases e
          obtain ⟨c, ws, rfl, g1, g2⟩ := pL_rep rh ph ry hd
          refine ⟨a, c, vs, ws, rfl, rfl, h1, g1, by rw [h2.len, g2.length]; exact hl, ?_⟩
          have m1 := h2.mono (Sub.refl R) (H' := upd H a (.lst (vs ++ ws))) fun b q => upd_ne (ne b q)
          obtain ⟨S2, j, k⟩ := m1.join (datAll_rep g2) fun b p q => q.elim
          refine post .non _ (OneA a S2) NoA (fun b q => upd_ne fun e => q (.inl e)) (.lst upd_same j fun q => ?_) (.dat .non) noA_apart (fun b q => ?_) fun b q => q.elim
          · exact ((k a).mp q).elim h3 False.elim
          · rcases q with q | q
            · exact .inl (.inl q)
            · exact .inl (((k b).mp q).elim .inr False.elim)
        · cases e
      · split at e
        · rename_i us _
          split at e
          · rename_i hl
            cases e
            have ry : Rep K R H (.lst us) y Zx := ry
            cases ry with
            | lst g1 g2 g3 =>
              rename_i c ws Sc
              refine ⟨a, c, vs, ws, rfl, rfl, h1, g1, by rw [h2.len, g2.len]; exact hl, ?_⟩
              have m1 := h2.mono (Sub.refl R) (H' := upd H a (.lst (vs ++ ws))) fun b q => upd_ne (ne b q)
              have m2 := g2.mono (Sub.refl R) (H' := upd H a (.lst (vs ++ ws))) fun b q => upd_ne fun e => ap b (.inr q) (.inl e)
              obtain ⟨S2, j, k⟩ := m1.join m2 fun b p q => ap b (.inr q) (.inr p)
              refine post .non _ (OneA a S2) NoA (fun b q => upd_ne fun e => q (.inl e)) (.lst upd_same j fun q => ?_) (.dat .non) noA_apart (fun b q => ?_) fun b q => q.elim
              · exact ((k a).mp q).elim h3 fun q => ap a (.inr q) (.inl rfl)
              · rcases q with q | q
                · exact .inl (.inl q)
                · exact ((k b).mp q).imp .inr .inr
          · cases e
        · cases e
  · cases e
def moPop : T → List PV → Option (T × T)
  | .lst ts, [] => match ts.getLast? with
    | some t => some (.lst ts.dropLast, t)
    | none => none
  | _, _ => none
theorem mk_pop {K : PySem.W.Frag} : MutK K rPop moPop := by
  intro R P H S Z Zx t t' u v ps vs Q rh ph r zn as ap e post
  unfold moPop at e
  split at e
  · rename_i ts
    split at e
    · rename_i x hx
      cases e
      cases as
      obtain ⟨ys, e⟩ := List.getLast?_eq_some_iff.mp hx
      subst e
      rw [List.dropLast_concat] at *
      cases r with
      | lst h1 h2 h3 =>
        rename_i a vs S1
        have ne : ∀ b, S1 b → b ≠ a := fun b q e => h3 (e ▸ q)
        obtain ⟨us, ws, Sa, Sb, rfl, l, g1, g2, ap2, k⟩ := h2.split
        obtain ⟨w, rfl, g5⟩ := g2.the
        refine ⟨a, us ++ [w], w, rfl, rfl, h1, by simp, ?_⟩
        rw [List.dropLast_concat]
        refine post w _ (OneA a Sa) Sb (fun b q => upd_ne fun e => q (.inl e)) (.lst upd_same (g1.mono (Sub.refl R) fun b q => upd_ne (ne b ((k b).mpr (.inl q)))) fun q => h3 ((k a).mpr (.inl q)))
          (g5.mono (Sub.refl R) fun b q => upd_ne (ne b ((k b).mpr (.inr q)))) (fun b p q => ?_) (fun b q => .inl (q.imp id fun q => (k b).mpr (.inl q))) fun b q => .inl (.inr ((k b).mpr (.inr q)))
        rcases q with q | q
        · exact ne b ((k b).mpr (.inr p)) q
        · exact ap2 b q p
    · cases e
  · cases e
def moPopAt : T → List PV → Option (T × T)
  | .lst ts, [p] => match pI p with
    | some i => if -(2 ^ 63) ≤ i ∧ i < 2 ^ 63 then match seqIndex? i ts.length with
        | some k => match ts[k]? with
          | some t => some (.lst (ts.eraseIdx k), t)
          | none => none
        | none => none
      else none
    | none => none
  | _, _ => none
theorem cut_at {α : Type} : ∀ {l : List α} {k : Nat} {x : α}, l[k]? = some x → l = l.take k ++ ([x] ++ l.drop (k + 1)) ∧ l.eraseIdx k = l.take k ++ l.drop (k + 1)
  | [], _, _, e => by simp at e
  | a :: l, 0, x, e => by simp at e; subst e; simp
  | a :: l, k + 1, x, e => by
    obtain ⟨h1, h2⟩ := cut_at (l := l) (k := k) (x := x) (by simpa using e)
    constructor
    · show a :: l = a :: (l.take k ++ ([x] ++ l.drop (k + 1)))
      rw [← h1]
    · show a :: l.eraseIdx k = a :: (l.take k ++ l.drop (k + 1))
      rw [h2]
theorem mk_popAt {K : PySem.W.Frag} : MutK K rPopAt moPopAt := by
  intro R P H S Z Zx t t' u v ps vs Q rh ph r zn as ap e post
  unfold moPopAt at e
  split at e
  · rename_i ts p
    split at e
    · rename_i i hi
      split at e
      · rename_i hb
        split at e
        · rename_i k hk
          split at e
          · rename_i x hx
            cases e
            obtain ⟨y, rfl, ry⟩ := as.one
            have hy := pI_rep rh ph ry hi
            subst hy
            obtain ⟨c1, c2⟩ := cut_at hx
            cases r with
            | lst h1 h2 h3 =>
              rename_i a vs S1
              have ne : ∀ b, S1 b → b ≠ a := fun b q e => h3 (e ▸ q)
              have lv := h2.len
              rw [c1] at h2
              obtain ⟨us, ws, Sa, Sb, rfl, l, g1, g2, ap2, kk⟩ := h2.split
              obtain ⟨w1, w2, Sc, Sd, rfl, l2, g3, g4, ap3, k3⟩ := g2.split
              obtain ⟨w, rfl, g5⟩ := g3.the
              have lt : k < ts.length := (List.getElem?_eq_some_iff.mp hx).1
              have lu : us.length = k := by rw [l, List.length_take]; omega
              have hw : (us ++ ([w] ++ w2))[k]? = some w := by
                rw [← lu, List.getElem?_append_right (Nat.le_refl _)]; simp
              refine ⟨a, us ++ ([w] ++ w2), i, k, w, rfl, rfl, h1, hb.1, hb.2, by rw [lv]; exact hk, hw, ?_⟩
              have er : (us ++ ([w] ++ w2)).eraseIdx k = us ++ w2 := by
                rw [← lu, List.eraseIdx_append_of_length_le (Nat.le_refl _)]; simp
              rw [er]
              rw [c2] at post
              have inb : ∀ b, Sa b ∨ Sc b ∨ Sd b → S1 b := fun b h => by
                rcases h with h | h | h
                · exact (kk b).mpr (.inl h)
                · exact (kk b).mpr (.inr ((k3 b).mpr (.inl h)))
                · exact (kk b).mpr (.inr ((k3 b).mpr (.inr h)))
              have m1 := g1.mono (Sub.refl R) (H' := upd H a (.lst (us ++ w2))) fun b q => upd_ne (ne b (inb b (.inl q)))
              have m2 := g4.mono (Sub.refl R) (H' := upd H a (.lst (us ++ w2))) fun b q => upd_ne (ne b (inb b (.inr (.inr q))))
              obtain ⟨S2, j, kj⟩ := m1.join m2 fun b p q => ap2 b p ((k3 b).mpr (.inr q))
              refine post w _ (OneA a S2) Sc (fun b q => upd_ne fun e => q (.inl e)) (.lst upd_same j fun q => ?_) (g5.mono (Sub.refl R) fun b q => upd_ne (ne b (inb b (.inr (.inl q))))) (fun b p q => ?_) (fun b q => ?_) fun b q => .inl (.inr (inb b (.inr (.inl q))))
              · exact h3 (inb a (((kj a).mp q).imp id .inr))
              · rcases q with q | q
                · exact ne b (inb b (.inr (.inl p))) q
                · rcases (kj b).mp q with q | q
                  · exact ap2 b q ((k3 b).mpr (.inl p))
                  · exact ap3 b p q
              · exact .inl (q.imp id fun q => inb b (((kj b).mp q).imp id .inr))
          · cases e
        · cases e
      · cases e
    · cases e
  · cases e
def moClear : T → List PV → Option (T × T)
  | .lst _, [] => some (.lst [], .dat .none)
  | _, _ => none
theorem mk_clear {K : PySem.W.Frag} : MutK K rClear moClear := by
  intro R P H S Z Zx t t' u v ps vs Q rh ph r zn as ap e post
  unfold moClear at e
  split at e
  · cases e
    cases as
    cases r with
    | lst h1 h2 h3 =>
      rename_i a vs S1
      exact ⟨a, vs, rfl, rfl, h1, post .non _ (OneA a NoA) NoA (fun b q => upd_ne fun e => q (.inl e)) (.lst upd_same .nil id) (.dat .non) noA_apart (fun b q => .inl (q.imp id False.elim)) fun b q => q.elim⟩
  · cases e
def rInsert : V → List V → Hp → VK → Prop := fun x vs H Q => ∃ (l : Addr) (xs : List V) (i : Int) (y : V), x = .ref l ∧ vs = [.int i, y] ∧ H l = some (.lst xs) ∧ xs.length < sizeLine ∧ 0 ≤ i ∧ i < 2 ^ 63 ∧
    Q .non (upd H l (.lst (xs.take i.toNat ++ [y] ++ xs.drop i.toNat)))
def moInsert : T → List PV → Option (T × T)
  | .lst ts, [p, .fr t] => match pI p with
    | some i => if ts.length < sizeLine ∧ 0 ≤ i ∧ i < 2 ^ 63 then some (.lst (ts.take i.toNat ++ [t] ++ ts.drop i.toNat), .dat .none) else none
    | none => none
  | _, _ => none
theorem mk_insert {K : PySem.W.Frag} : MutK K rInsert moInsert := by
  intro R P H S Z Zx t t' u v ps vs Q rh ph r zn as ap e post
  unfold moInsert at e
  split at e
  · rename_i ts p x
    split at e
    · rename_i i hi
      split at e
      · rename_i hb
        cases e
        cases as with
        | cons a1 b1 n1 =>
          rename_i y1 ys Za Zb
          obtain ⟨y, rfl, ry⟩ := b1.one
          have ry : Rep K R H x y Zb := ry
          have hy := pI_rep rh ph a1 hi
          subst hy
          cases r with
          | lst h1 h2 h3 =>
            rename_i a vs S1
            have ne : ∀ b, S1 b → b ≠ a := fun b q e => h3 (e ▸ q)
            have lv := h2.len
            refine ⟨a, vs, i, y, rfl, rfl, h1, by rw [lv]; exact hb.1, hb.2.1, hb.2.2, ?_⟩
            have hh := h2
            rw [← List.take_append_drop i.toNat ts] at hh
            obtain ⟨us, ws, Sa, Sb, ev, l, g1, g2, ap2, kk⟩ := hh.split
            have e1 : vs.take i.toNat = us ∧ vs.drop i.toNat = ws := by
              rw [List.length_take] at l
              by_cases c : i.toNat ≤ ts.length
              · rw [Nat.min_eq_left c] at l
                rw [ev, ← l]
                exact ⟨List.take_left, List.drop_left⟩
              · have hd : ts.drop i.toNat = [] := List.drop_eq_nil_iff.mpr (by omega)
                rw [hd] at g2
                cases g2
                rw [List.append_nil] at ev
                subst ev
                exact ⟨List.take_of_length_le (by omega), List.drop_eq_nil_iff.mpr (by omega)⟩
            rw [e1.1, e1.2]
            have m1 := g1.mono (Sub.refl R) (H' := upd H a (.lst (us ++ [y] ++ ws))) fun b q => upd_ne (ne b ((kk b).mpr (.inl q)))
            have m2 := g2.mono (Sub.refl R) (H' := upd H a (.lst (us ++ [y] ++ ws))) fun b q => upd_ne (ne b ((kk b).mpr (.inr q)))
            have m3 := ry.mono (Sub.refl R) (H' := upd H a (.lst (us ++ [y] ++ ws))) fun b q => upd_ne fun e => ap b (.inr q) (.inl e)
            obtain ⟨S2, j, kj⟩ := m1.join (RepAll.one m3) fun b p q => ap b (.inr q) (.inr ((kk b).mpr (.inl p)))
            obtain ⟨S3, j3, k3⟩ := j.join m2 fun b p q => by
              rcases (kj b).mp p with p | p
              · exact ap2 b p q
              · exact ap b (.inr p) (.inr ((kk b).mpr (.inr q)))
            refine post .non _ (OneA a S3) NoA (fun b q => upd_ne fun e => q (.inl e)) (.lst upd_same j3 fun q => ?_) (.dat .non) noA_apart (fun b q => ?_) fun b q => q.elim
            · rcases (k3 a).mp q with q | q
              · rcases (kj a).mp q with q | q
                · exact h3 ((kk a).mpr (.inl q))
                · exact ap a (.inr q) (.inl rfl)
              · exact h3 ((kk a).mpr (.inr q))
            · rcases q with q | q
              · exact .inl (.inl q)
              · rcases (k3 b).mp q with q | q
                · rcases (kj b).mp q with q | q
                  · exact .inl (.inr ((kk b).mpr (.inl q)))
                  · exact .inr (.inr q)
                · exact .inl (.inr ((kk b).mpr (.inr q)))
      · cases e
    · cases e
  · cases e
end VS

set_option Elab.async false
set_option linter.all false
set_option maxRecDepth 100000
/-! Value semantics, 17: slot[i] = e. -/
namespace VS
open PySem PySem.Spec PyProof.Rows L2

def stL : T → PV → T → Option T
  | .lst ts, i, t => match pI i with
    | some k => (ixN ts.length k).map fun j => .lst (ts.set j t)
    | none => none
  | _, _, _ => none
/-- what may be stored at o[i] -/
def StoK (K : PySem.W.Frag) (r : TSet) (st : T → PV → T → Option T) : Prop :=
  ∀ {R P H : Hp} {S Z Zx Zi : ASet} {t t' u : T} {o v w : V} {ip : PV} {Q : Hp → Prop}, RSub R H → RSub P H → Rep K R H t o Z → (∀ a, Z a → R a = none ∧ P a = none) → PvR K R P H S ip w Zi → Rep K R H u v Zx → Apart Zx Z → st t ip u = some t' →
    (∀ H' Z', (∀ b, ¬ Z b → H' b = H b) → Rep K R H' t' o Z' → (∀ b, Z' b → Z b ∨ Zx b) → Q H') → r o w v H Q
theorem sk_list {K : PySem.W.Frag} : StoK K rSetL stL := by
  intro R P H S Z Zx Zi t t' u o v w ip Q rh ph r zn ri rv ap e post
  cases t with
  | lst ts =>
    unfold stL at e
    simp only at e
    split at e
    · rename_i k hk
      cases hj : ixN ts.length k with
      | none => rw [hj] at e; cases e
      | some j =>
        rw [hj] at e; cases e
        have hy := pI_rep rh ph ri hk
        subst hy
        cases r with
        | lst h1 h2 h3 =>
          rename_i a vs S1
          have ne : ∀ b, S1 b → b ≠ a := fun b q e => h3 (e ▸ q)
          refine ⟨a, vs, k, j, rfl, rfl, h1, by rw [h2.len]; exact hj, ?_⟩
          have lt : j < ts.length := by
            obtain ⟨q1, q2, q3, q4⟩ := ixN_seq hj
            exact q2
          have m1 := h2.mono (Sub.refl R) (H' := upd H a (.lst (vs.set j v))) fun b q => upd_ne (ne b q)
          have m2 := rv.mono (Sub.refl R) (H' := upd H a (.lst (vs.set j v))) fun b q => upd_ne fun e => ap b q (.inl e)
          obtain ⟨S2, x, y⟩ := m1.put lt m2 fun b p q => ap b p (.inr q)
          refine post _ (OneA a S2) (fun b q => upd_ne fun e => q (.inl e)) (.lst upd_same x fun q => ?_) fun b q => ?_
          · exact (y a q).elim h3 fun q => ap a q (.inl rfl)
          · rcases q with q | q
            · exact .inl (.inl q)
            · exact (y b q).imp .inr id
    · cases e
  | _ => cases e
/-- slot[fi] = f; the index is quiet -/
def sSto (i : Nat) (st : T → PV → T → Option T) (fi f : Es) : Ss := fun env => match f env with
  | some (.ok _ p e) => match keep p with
    | some u => match fi e with
      | some (.ok true ip _) => match e[i]? with
        | some t => if isL t || isDc t then (st t ip u).map fun t' => .nx (e.set i t') else none
        | none => none
      | _ => none
    | none => none
  | some (.x ex e) => some (.x ex e)
  | none => none
theorem sSto_imp {K : PySem.W.Frag} {W : WX} {B : List Nat} {i : Nat} {st : T → PV → T → Option T} {fi f : Es} {D : Ends} {σ : L2.St} {H : Hp} {r : TSet} (sk : StoK K r st) (h : rdS K W B (sSto i st fi f) D σ H) : tAsg (rdE K W f) (gSub (tVar i) (rdE K W fi) r) D σ H := by
  obtain ⟨env, R, P, S, o, sr, ho, post⟩ := h
  unfold sSto at ho
  cases hf : f env with
  | none => rw [hf] at ho; cases ho
  | some rf =>
    rw [hf] at ho
    refine ⟨env, R, P, S, rf, sr, hf, ?_⟩
    cases rf with
    | x ex e => cases ho; exact fun c d R' H' S' s' f' x' => post c d σ R' H' S' (exc_of f' s') x'
    | ok q p e =>
      simp only at ho
      cases hk : keep p with
      | none => rw [hk] at ho; cases ho
      | some u =>
        rw [hk] at ho
        simp only at ho
        split at ho
        · rename_i ip e2 hi
          split at ho
          · rename_i t ht
            split at ho
            · rename_i kt
              cases hs : st t ip u with
              | none => rw [hs] at ho; cases ho
              | some t' =>
                rw [hs] at ho; cases ho
                intro v R1 H1 S1 Zx s1 rv
                have nu : t ≠ .un := fun e => by rw [e] at kt; cases kt
                have nv : ∀ u, t ≠ .vw u := fun u e => by rw [e] at kt; cases kt
                obtain ⟨o0, Z0, S0, hv, _⟩ := s1.sr.node ht nu nv
                refine ⟨o0, hv, e, R1, P, S1, _, s1.sr, hi, fun w R2 H2 S2 Zi s2 ri => ?_⟩
                obtain ⟨q1, q2, q3, q4⟩ := s2.qt rfl
                subst q1 q3
                have sr2 := s2.sr
                obtain ⟨o1, Z, S3, hv', r1, zn, ap2, e3, go⟩ := sr2.node ht nu nv
                rw [hv] at hv'; cases hv'
                have ru := keep_rep rv hk
                obtain ⟨k1, k2, k3⟩ := s1.hold ru.there s2.fr
                have ru2 := ru.mono s2.fr.rr k1
                refine sk sr2.rh sr2.ph r1 zn ri ru2 (fun a p q => s1.ap a p ((e3 a).mpr (.inr q))) hs fun H' Z' same rt sub => ?_
                have zf2 : ∀ b, Zx b → R2 b = none ∧ P b = none := fun b z => ⟨?_, (s1.zf b z).2⟩
                · obtain ⟨S', sr', sub'⟩ := go same rt sub s1.ap zf2
                  refine post σ R2 H' S' ⟨sr', noA_apart, fun _ h => h.elim, ?_, Fix.refl B σ⟩
                  have f12 : Fr R H S R2 H2 (TwoA S2 Zx) := by
                    have st := (s1.both ru.there s2).1
                    exact st.fr.narrow fun a h => h.imp id .inl
                  refine f12.trans ⟨fun a o e n => ?_, Sub.refl R2, fun a h => .inl h, fun a h => ?_⟩
                  · rw [same a fun z => n (.inl ((e3 a).mpr (.inr z)))]; exact e
                  · rcases h with h | h
                    · rcases sub' a h with h | h
                      · exact .inl (.inl ((e3 a).mpr (.inl h)))
                      · exact .inl ((sub a h).imp (fun z => (e3 a).mpr (.inr z)) id)
                    · exact h.elim
                · have z := (s1.both ru.there s2).1.zf b (.inl z)
                  exact z.1
            · cases ho
          · cases ho
        · cases ho
theorem sj_sto {X : Cx} {W : WX} {B : List Nat} {st : T → PV → T → Option T} {fi f : Es} {r : TSet} {x : Str} {ix a : Expr} {p pos spos : Pos} (sk : StoK X.K r st) (hr : PSet X r) (i : Nat) (he : EJ X W a f) (hi : EJ X W ix fi)
    (hN : X.N[i]? = some x := by rfl) (hv : Vis X.env.scope x := by first | exact Or.inl rfl | exact Or.inr (Or.inl rfl) | exact Or.inr (Or.inr rfl))
    (hd : (x == ("__debug__" : Str)) = false := by decide) (hcd : (x == ("__classdict__" : Str)) = false := by decide)
    (ha : ∀ v, assign (.Subscript (.Name x p) ix pos) X.env v = (do
      let ov ← holding [v] (eval (.Name x p) X.env)
      let iv ← holding [v, ov] (eval ix X.env)
      standAt pos
      holding [v, ov, iv] (setItem ov iv v)
      release [v, ov, iv] []) := by intro _; rfl)
    (hs : swapsWithSole [.Subscript (.Name x p) ix pos] a spos.line X.env = pure false := by rfl) (hw : swappedStores [.Subscript (.Name x p) ix pos] a X.env = pure none := by rfl)
    (h1 : (assignEach [.Subscript (.Name x p) ix pos] X.env).map (·.2) = [assign (.Subscript (.Name x p) ix pos) X.env] := by rfl) :
    SJ X W B (.Assign [.Subscript (.Name x p) ix pos] a spos) (sSto i st fi f) :=
  PS.imp (ps_asg he (pg_sub (pe_var (i := i) hN hv hd hcd) hi hr ha) hs hw h1) fun _ _ _ h => sSto_imp sk h
end VS

set_option Elab.async false
set_option linter.all false
set_option maxRecDepth 100000
/-! Value semantics, 18: the law's end. -/
namespace VS
open PySem PySem.Spec PyProof.Rows L2

/-- what a law's def has to come to -/
def LawSays (n : Nat) (F : Fs) : Prop := ∀ ns : List Int, ns.length ≤ n → ∃ out, F [.scr ns] = some (.ret (.dat (.bool true)) out)
theorem says_sp {K : PySem.W.Frag} {F : Fs} {n : Nat} {a : Addr} {H : Hp} {ns : List Int} (h : LawSays n F) (hl : ns.length ≤ n) (hs : SqL K H a (ns.map V.int)) : callSp K F [.ref a] H (fun v _ => v = .bl true) fun _ _ _ => False := by
  obtain ⟨out, e⟩ := h ns hl
  have z := RepAs.cons (K := K) (R := H) (P := fun _ => none) (H := H) (RepA.own (Rep.scr hs)) RepAs.nil noA_apart
  rw [two_no] at z
  refine ⟨[.scr ns], H, fun _ => none, NoA, _, z, RSub.refl H, (fun a o e => nomatch e), (fun _ z => z.elim), e, fun v R' H' S' Z _ rt _ _ _ _ => ?_⟩
  cases rt with
  | dat h => cases h; rfl
/-- the law's def at its call by the claim -/
theorem law_callG {P : Program} {w : World} {K : PySem.W.Frag} {mg mb : Str → Option Value} {k : Nat} {fa a : Addr} {fd : FuncData} {x : Str} {F : Fs} {s₁ : Shared} {vs : List Value} {ns : List Int}
    (hKI : K.In s₁.heap) (hG : s₁.heap.Ns mainGlobals mg) (hB : s₁.heap.Ns builtinsNs mb) (hBv : ∀ x : Str, x ≠ "__name__" → mb x = bootBuiltins x) (hL : s₁.heap.NoLimit) (hgen : s₁.gens = #[])
    (hobj : s₁.heap.get? a = some { cls := .type "list", data := .seq vs.toArray }) (hints : IntsAre vs ns) (hsz : ns.length ≤ sizeLine) (hroom : Room k callerA)
    (hF : ∀ base : Heap, K.In base → base.Ns mainGlobals mg → FnG P w K mg base k fa fd [x] F) (hbind : ∀ (s : Shared) (u : Value), BindsTo s fd ⟨[u], []⟩ [(x, u)])
    (hsp : ∀ H : Hp, Only H → SqL K H a (ns.map V.int) → callSp K F [.ref a] H (fun v _ => v = .bl true) fun _ _ _ => False) :
    codeAny (model P w) callerA (.call (.ref fa) ⟨[.ref a], []⟩) (fun r s' => r = .ok (.ret (.bool true)) ∧ OldK s₁.heap s'.heap ∧ s'.os = s₁.os ∧ AllBare s'.gens) s₁ := by
  -- a def that keeps its promise, as the library's own end asks for it: the caller's stack shows that nothing is being written out
  have sizes := hints.length
  have vals := vals_ints hints
  have go : ∀ H : Hp, Only H → SqL K H a (ns.map V.int) → HOk P w H s₁.heap → (∀ b, H b ≠ none → b = a) → (H a ≠ none → K.lookup a = none) →
      codeAny (model P w) callerA (.call (.ref fa) ⟨[.ref a], []⟩) (fun r s' => r = .ok (.ret (.bool true)) ∧ OldK s₁.heap s'.heap ∧ s'.os = s₁.os ∧ AllBare s'.gens) s₁ := by
    intro H only seq ok alone apart
    have isSeq : ∀ {b : Addr} {o : Obj}, H b ≠ none → s₁.heap.get? b = some o → o.data = .seq vs.toArray 0 := fun {b o} ne e => by
      have q := alone b ne
      subst q
      rw [hobj] at e
      cases e
      rfl
    have shown : ∀ {b : Addr} {o : Obj}, s₁.heap.get? b = some o → H b = none → (hidT s₁.heap H).get? b = some o := fun e n => hidT_get e n
    have dictFree : ∀ {b : Addr} {o : Obj} {es : Array DictEntry} {ep : Nat}, s₁.heap.get? b = some o → o.data = .dict es ep → H b = none := fun {b o es ep} e d => by
      by_cases q : H b = none
      · exact q
      · have z := isSeq q e
        rw [d] at z
        cases z
    have nsOf : ∀ {b : Addr} {m : Str → Option Value}, s₁.heap.Ns b m → (hidT s₁.heap H).Ns b m := fun {b m} n => by
      obtain ⟨o, es, ep, e, d, r⟩ := n
      exact ⟨o, es, ep, shown e (dictFree e d), d, r⟩
    have inB : K.In (hidT s₁.heap H) := fun b o e => by
      refine shown (hKI b o e) ?_
      by_cases q : H b = none
      · exact q
      · have eb := alone b q
        subst eb
        rw [apart q] at e
        cases e
    have mod : Mod K mg (hidT s₁.heap H) := by
      obtain ⟨mc, l1, l2⟩ := hL
      exact ⟨inB, nsOf hG, ⟨mb, nsOf hB, hBv⟩, mc, nsOf l1, l2⟩
    have none0 : ∀ b : Addr, ¬ b ∈ frs [] := fun b hb => by
      have hb' : b ∈ ([] : List Addr) := hb
      cases hb'
    have env0 : Env0 P w K mg (hidT s₁.heap H) callerA [] s₁ H := ⟨rfl, mod, fun b o e => of_hidT e, Nat.le_of_eq (hidT_size _ _), trivial, fun b hb => (none0 b hb).elim, ok, .of_eq hgen⟩
    have run := (hF _ inB (nsOf hG)).run callerA [] s₁ H ⟨[.ref a], []⟩ [.ref a] [.ref a] _ _ hroom rfl env0 (hbind s₁ (.ref a)) (.cons rfl .nil) (hsp H only seq)
    refine codeAny_mono run fun r s' h => ?_
    cases r with
    | error e =>
      obtain ⟨_, _, _, _, _, _, _, _, q⟩ := h
      exact q.2.2.2.2.elim
    | ok fl =>
      cases fl with
      | ret u =>
        obtain ⟨v, H', os, bare, un, ok', r', q⟩ := h
        have q' : v = .bl true := q
        subst q'
        obtain rfl : u = Value.bool true := r'
        refine ⟨rfl, OldK.of_keep fun b o e => ?_, os, bare⟩
        rcases only b with q | ⟨ob, xs, q⟩
        · exact un.keep b o e q (none0 b) (by simp)
        · have kept := un.frzs b ob _ q
          obtain ⟨e1, _⟩ := ok b _ q
          obtain ⟨e2, _⟩ := ok' b _ kept
          rw [e] at e1
          cases e1
          exact e2
      | _ => exact False.elim h
  cases hk : K.lookup a with
  | some o =>
    have e := hKI a o hk
    rw [hobj] at e
    cases e
    have seq : SqL K (fun _ => none) a (ns.map V.int) := .inr ⟨_, vs.toArray, _, hk, rfl, rfl, rfl, by rw [List.size_toArray, sizes]; exact hsz, by simpa using vals⟩
    exact go (fun _ => none) (fun _ => .inl rfl) seq (fun b u z => nomatch z) (fun b z => (z rfl).elim) fun z => (z rfl).elim
  | none =>
    let Hs : Hp := fun b => if b = a then some (.frz { cls := .type "list", data := .seq vs.toArray } (.lst (ns.map V.int))) else none
    have at_a : Hs a = some (.frz { cls := .type "list", data := .seq vs.toArray } (.lst (ns.map V.int))) := if_pos rfl
    have off : ∀ b, b ≠ a → Hs b = none := fun b n => if_neg n
    refine go Hs (fun b => ?_) (.inl (.inr ⟨_, at_a⟩)) (fun b u z => ?_) (fun b z => ?_) fun _ => hk
    · by_cases q : b = a
      · subst q; exact .inr ⟨_, _, at_a⟩
      · exact .inl (off b q)
    · by_cases q : b = a
      · subst q
        rw [at_a] at z
        cases z
        exact ⟨hobj, by rw [List.length_map]; exact hsz, vs, _, vals, hobj⟩
      · rw [off b q] at z; cases z
    · by_cases q : b = a
      · exact q
      · exact (z (off b q)).elim
/-- the end over a head by facts -/
theorem walk_ofG {l : PySem.W.OpenLaw} {n k : Nat} {q : Program} {loose : List Str} {XP : (Str → Option Value) → Heap → Prop} {YP : World → Heap → Prop} {d : DefRec} {x : Str}
    (hn : l.most = some n) (hn2 : n ≤ sizeLine) (hdf : d.params.defaults = []) (hr : Room k callerA)
    (F : ∀ (w : World) (mg : Str → Option Value) (fa : Addr) (h : Heap), YP w h → h.Ns mainGlobals mg → mg d.name = some (.ref fa) →
      ∃ (K : PySem.W.Frag) (fd : FuncData) (F : Fs), K.In h ∧ (∀ (s : Shared) (u : Value), BindsTo s fd ⟨[u], []⟩ [(x, u)]) ∧ LawSays n F ∧
        ∀ base : Heap, K.In base → base.Ns mainGlobals mg → FnG l.prog w K mg base k fa fd [x] F) :
    PySem.W.WalkO q loose XP YP l.row.toRowW d [] (fun f vs => PySem.call f vs) := by
  refine Att.attach_call hn hdf fun w s₀ s₁ mg mb fa o pm cd doc a vs ns G Y ho hd hcd hmg hobj hints hlen hg => ?_
  obtain ⟨K, fd, Ff, hK, hb, says, hG⟩ := F w mg fa _ Y G.T.g hmg
  exact law_callG hK G.T.g G.T.b G.T.builtins G.T.nolimit hg hobj hints (Nat.le_trans hlen hn2) hr hG hb fun H hO hS => says_sp says hlen hS
end VS

set_option Elab.async false
set_option linter.all false
set_option maxRecDepth 100000
/-! Value semantics, 19: what the printed derivations lean on. -/
namespace VS
open PySem PySem.Spec PyProof.Rows L2

/-- a def at the module's level, by its name -/
structure Dep (P : Program) (w : World) (K : PySem.W.Frag) (mg : Str → Option Value) (base : Heap) (k : Nat) (x : Str) (ps : List Str) (F : Fs) : Prop where
  ex : ∃ (f : Addr) (fd : FuncData), FnG P w K mg base k f fd ps F ∧ mg x = some (.ref f) ∧ PySem.W.keepIn K (.ref f) = true ∧ Binds K fd ps [] ∧ Named K x f
section
variable {P : Program} {w : World} {K : PySem.W.Frag} {mg : Str → Option Value} {base : Heap} {j k : Nat} {x : Str} {ps : List Str} {F : Fs}
theorem Dep.mono (D : Dep P w K mg base j x ps F) (h : j ≤ k) : Dep P w K mg base k x ps F := by
  obtain ⟨f, fd, a, b, c, d, e⟩ := D.ex
  exact ⟨f, fd, a.mono h, b, c, d, e⟩
theorem dep_mk {f : Addr} {name qual : Str} {st : Stmt} {oc : Value} {od an : Option Addr} {osl : Array (Option Value)} {kV doc pm cdv ct : Value} (l : K.lookup f = some ⟨oc, od, .func (PySem.W.fnOf name qual (defArgs st) (defBody st) (defScope st) .none kV doc pm an cdv ct), osl⟩)
    (c : PySem.W.codeIn K cdv qual = true) (kp : PySem.W.keepIn K (.ref f) = true) (hm : mg x = some (.ref f)) (hn : Named K x f)
    (h : ∀ (kV doc pm : Value) (an : Option Addr) (cdv ct : Value) (us : List Value), us.length = ps.length → bindArgs (PySem.W.fnOf name qual (defArgs st) (defBody st) (defScope st) .none kV doc pm an cdv ct) ⟨us, []⟩ = pure (ps.zip us))
    (G : FnG P w K mg base k f (PySem.W.fnOf name qual (defArgs st) (defBody st) (defScope st) .none kV doc pm an cdv ct) ps F) : Dep P w K mg base k x ps F :=
  ⟨f, _, G, hm, kp, .all (h kV doc pm an cdv ct), hn⟩
end
section
variable {X : Cx} {W : WX} {e : Expr} {es : List Expr} {g : As} {k : Nat} {x : Str} {ps : List Str} {F : Fs} {p pos : Pos}
theorem ej_dep (D : Dep X.prog X.w X.K X.mg X.base k x ps F) (hr : Room k X.A) (hg : X.A.guards = some []) (tk : Takes X W) (ha : AJ X W (e :: es) g) (gl : Gl X x := by rfl)
    (hdb : (x == ("__debug__" : Str)) = false := by decide) (he : starEach (e :: es) X.env = (false, eval e X.env) :: starEach es X.env := by rfl) (hpl : (backTo pos (starEach es X.env)).any (·.1) = false := by rfl) :
    EJ X W (.Call (.Name x p) (e :: es) [] pos) (eCall F g) := by
  obtain ⟨f, fd, G, hm, hk, hb, _⟩ := D.ex
  exact ej_call G hr hg gl hm hk hb tk ha hdb he hpl
theorem ej_dep0 (D : Dep X.prog X.w X.K X.mg X.base k x ps F) (hr : Room k X.A) (hg : X.A.guards = some []) (tk : Takes X W) (gl : Gl X x := by rfl)
    (hdb : (x == ("__debug__" : Str)) = false := by decide) : EJ X W (.Call (.Name x p) [] [] pos) (eCall F aNil) := by
  obtain ⟨f, fd, G, hm, hk, hb, _⟩ := D.ex
  exact ej_call0 G hr hg gl hm hk hb tk hdb
theorem ej_gint {n : Int} {t : Tok} (hm : X.mg x = some (.int n t)) (gl : Gl X x := by rfl) (hd : (x == ("__debug__" : Str)) = false := by decide) : EJ X W (.Name x pos) (eC (.int n)) :=
  ej_c (v := .int n) (pe_glob gl hm ⟨t, rfl⟩ hd) fun _ => .int n
end
section
variable {P : Program} {w : World} {K : PySem.W.Frag} {mg : Str → Option Value} {base : Heap} {N : List Str} {qual : Str} {scope : Scope} {f : Addr} {cd : Value} {A : Around} {outer : List Env} {s : Shared} {H : Hp} {E : XK}
theorem tk_def : Takes (cxOf (L2.CX P w) P w K mg base N qual scope f cd A outer s H E) (fun c d _ H => E c d H) := takes_of rfl rfl rfl rfl
theorem po_def : PassesOwn (model (cxOf (L2.CX P w) P w K mg base N qual scope f cd A outer s H E).prog (cxOf (L2.CX P w) P w K mg base N qual scope f cd A outer s H E).w) (cxOf (L2.CX P w) P w K mg base N qual scope f cd A outer s H E).A (cxOf (L2.CX P w) P w K mg base N qual scope f cd A outer s H E).env (cxOf (L2.CX P w) P w K mg base N qual scope f cd A outer s H E).xe := passes_of rfl
end
theorem tk0 {X : Cx} : Takes X W0 := fun _ _ ⟨_, _, _, _, _, _, _, _, _, _, _, _, _, _, _, _, w⟩ => w.elim
theorem units_of {k : Nat} {A : Around} (r : Room k A) : A.units + 64 < cLine := by have := r.un; omega
theorem units65 {k : Nat} {A : Around} (r : Room k A) : A.units + 65 < cLine := by have := r.un; omega
def covB (n : Nat) (own B : List Nat) : Bool := (List.range n).all fun j => decide (j ∈ own) || decide (j ∈ B)
theorem cov_of {n : Nat} {own B : List Nat} (h : covB n own B = true) : ∀ j, j < n → j ∈ own ∨ j ∈ B := fun j hj => by
  have := List.all_eq_true.mp h j (List.mem_range.mpr hj)
  rcases Bool.or_eq_true_iff.mp this with h | h
  · exact .inl (of_decide_eq_true h)
  · exact .inr (of_decide_eq_true h)
/-! truths of and, or: one part, as a test -/
section
variable {X : Cx} {W : WX} {a b : Expr} {rest : List Expr} {fa fb : Es} {pos : Pos}
theorem wj_and1 (h : TJ X W a fa) : WJ X W (.BoolOp .And [a] pos) fa := pw_and1 h
theorem wj_or1 (h : TJ X W a fa) : WJ X W (.BoolOp .Or [a] pos) fa := pw_or1 h
theorem ej_one {op} (h : EJ X W a fa) : EJ X W (.BoolOp op [a] pos) fa := pe_one h
theorem tj_of {e : Expr} {f : Es} (h : WJ X W e f) : TJ X W e f := PW.pt h
end
end VS

set_option Elab.async false
set_option linter.all false
set_option maxRecDepth 100000
/-! Value semantics, 20: a fresh value that nobody will change becomes data. -/
namespace VS
open PySem PySem.Spec PyProof.Rows L2

def frz (t : T) : T := match toD t with
  | some d => .dat d
  | none => t
def eFz (f : Es) : Es := fun env => match f env with
  | some (.ok q (.fr t) e) => some (.ok q (.fr (frz t)) e)
  | r => r
/-! what is owned at Z, read where Z has come into the region -/
open Classical in
noncomputable def grow (R H : Hp) (Z : ASet) : Hp := fun a => if Z a then H a else R a
section
variable {K : PySem.W.Frag} {R H : Hp} {Z : ASet}
theorem grow_in {a : Addr} (h : Z a) : grow R H Z a = H a := by unfold grow; rw [if_pos h]
theorem grow_out {a : Addr} (h : ¬ Z a) : grow R H Z a = R a := by unfold grow; rw [if_neg h]
theorem grow_sub (z : ∀ a, Z a → R a = none) : Sub R (grow R H Z) := fun a o e => by
  rw [grow_out fun h => by rw [z a h] at e; cases e]; exact e
mutual
theorem Rep.froz (z : ∀ a, Z a → R a = none) : ∀ {t : T} {v : V} {S : ASet} {d : D}, Rep K R H t v S → (∀ a, S a → Z a) → toD t = some d → Dat (Reg (grow R H Z)) v d
  | _, _, _, _, .un, _, e => by simp [toD] at e
  | _, _, _, _, .scr _, _, e => by simp [toD] at e
  | _, _, _, _, .fn _, _, e => by simp [toD] at e
  | _, _, _, _, .exc _ _, _, e => by simp [toD] at e
  | _, _, _, _, .ins _ _ _ _ _ _ _, _, e => by simp [toD] at e
  | _, _, _, _, .dat h, _, e => by
    simp only [toD, Option.some.injEq] at e
    subst e
    exact h.mono fun a o q => grow_sub z a o q
  | _, _, _, _, .lst h r n, s, e => by
    rw [toD] at e
    cases q : toDs _ with
    | none => rw [q] at e; cases e
    | some ds =>
      rw [q] at e; cases e
      exact .lst ((grow_in (s _ (.inl rfl))).trans h) (RepAll.froz z r (fun a x => s a (.inr x)) q)
  | _, _, _, _, .tup h r, s, e => by
    rw [toD] at e
    cases q : toDs _ with
    | none => rw [q] at e; cases e
    | some ds =>
      rw [q] at e; cases e
      exact .tup (grow_sub z _ _ h) (RepAll.froz z r s q)
  | _, _, _, _, .dK h r n, s, e => by
    rw [toD] at e
    cases q : toDk _ with
    | none => rw [q] at e; cases e
    | some ds =>
      rw [q] at e; cases e
      exact .dK ((grow_in (s _ (.inl rfl))).trans h) (RepK.froz z r (fun a x => s a (.inr x)) q)
  | _, _, _, _, .dT h r n, s, e => by
    rw [toD] at e
    cases q : toDk _ with
    | none => rw [q] at e; cases e
    | some ds =>
      rw [q] at e; cases e
      exact .dT ((grow_in (s _ (.inl rfl))).trans h) (RepT.froz z r (fun a x => s a (.inr x)) q)
theorem RepAll.froz (z : ∀ a, Z a → R a = none) : ∀ {ts : List T} {vs : List V} {S : ASet} {ds : List D}, RepAll K R H ts vs S → (∀ a, S a → Z a) → toDs ts = some ds → DatAll (Reg (grow R H Z)) vs ds
  | _, _, _, _, .nil, _, e => by
    simp only [toDs, Option.some.injEq] at e
    subst e; exact .nil
  | _, _, _, _, .cons a b _, s, e => by
    rw [toDs] at e
    cases q1 : toD _ with
    | none => rw [q1] at e; cases e
    | some d =>
      cases q2 : toDs _ with
      | none => rw [q1, q2] at e; cases e
      | some ds =>
        rw [q1, q2] at e; cases e
        exact .cons (Rep.froz z a (fun a x => s a (.inl x)) q1) (RepAll.froz z b (fun a x => s a (.inr x)) q2)
theorem RepK.froz (z : ∀ a, Z a → R a = none) : ∀ {ts : List (D × T)} {vs : List (Key × V)} {S : ASet} {ds : List (D × D)}, RepK K R H ts vs S → (∀ a, S a → Z a) → toDk ts = some ds → DatK (Reg (grow R H Z)) vs ds
  | _, _, _, _, .nil, _, e => by
    simp only [toDk, Option.some.injEq] at e
    subst e; exact .nil
  | _, _, _, _, .cons a b _, s, e => by
    rw [toDk] at e
    cases q1 : toD _ with
    | none => rw [q1] at e; cases e
    | some d =>
      cases q2 : toDk _ with
      | none => rw [q1, q2] at e; cases e
      | some ds =>
        rw [q1, q2] at e; cases e
        exact .cons (Rep.froz z a (fun a x => s a (.inl x)) q1) (RepK.froz z b (fun a x => s a (.inr x)) q2)
theorem RepT.froz (z : ∀ a, Z a → R a = none) : ∀ {ts : List (D × T)} {vs : List (List Key × V)} {S : ASet} {ds : List (D × D)}, RepT K R H ts vs S → (∀ a, S a → Z a) → toDk ts = some ds → DatT (Reg (grow R H Z)) vs ds
  | _, _, _, _, .nil, _, e => by
    simp only [toDk, Option.some.injEq] at e
    subst e; exact .nil
  | _, _, _, _, .cons a b _, s, e => by
    rw [toDk] at e
    cases q1 : toD _ with
    | none => rw [q1] at e; cases e
    | some d =>
      cases q2 : toDk _ with
      | none => rw [q1, q2] at e; cases e
      | some ds =>
        rw [q1, q2] at e; cases e
        exact .cons (Rep.froz z a (fun a x => s a (.inl x)) q1) (RepT.froz z b (fun a x => s a (.inr x)) q2)
end
theorem Stp.froz {σ : L2.St} {P R H R' H' : Hp} {S S' Z : ASet} {env env' : List T} {q : Bool} (s : Stp K σ P env R H S q env' R' H' S' Z) (th : ∀ a, Z a → ∃ o, H' a = some o) : Stp K σ P env R H S q env' (grow R' H' Z) H' S' NoA := by
  have z : ∀ a, Z a → R' a = none := fun a h => (s.zf a h).1
  have sub : Sub R' (grow R' H' Z) := grow_sub z
  refine ⟨⟨s.sr.sl.mono sub fun _ _ => rfl, fun a o e => ?_, s.sr.ph, fun a h => ⟨?_, (s.sr.sf a h).2⟩⟩, noA_apart, fun _ h => h.elim, ⟨fun a o e n => s.fr.keep a o e n, s.fr.rr.trans sub, fun a h => ?_, fun a h => ?_⟩, fun e => ?_⟩
  · by_cases h : Z a
    · rw [grow_in h] at e; exact .inl e
    · rw [grow_out h] at e; exact s.sr.rh a o e
  · rw [grow_out fun k => s.ap a k h]; exact (s.sr.sf a h).1
  · by_cases k : Z a
    · rcases s.fr.sub a (.inr k) with y | y
      · exact .inr (.inl y)
      · exact .inr (.inr y)
    · rw [grow_out k] at h; exact s.fr.nw a h
  · exact s.fr.sub a (.inl (h.elim id False.elim))
  · obtain ⟨a, b, c, _⟩ := s.qt e
    exact ⟨a, b, c, fun _ h => h.elim⟩
end
theorem eFz_imp {K : PySem.W.Frag} {W : WX} {f : Es} {σ : L2.St} {H : Hp} {Q : VK} (h : rdE K W (eFz f) σ H Q) : rdE K W f σ H Q := by
  obtain ⟨env, R, P, S, r, sr, hr, post⟩ := h
  unfold eFz at hr
  cases hf : f env with
  | none => rw [hf] at hr; cases hr
  | some rf =>
    rw [hf] at hr
    refine ⟨env, R, P, S, rf, sr, hf, ?_⟩
    cases rf with
    | x ex e => cases hr; exact post
    | ok q p e =>
      cases p with
      | vw t => cases hr; exact post
      | pv t => cases hr; exact post
      | fr t =>
        simp only [Option.some.injEq] at hr
        subst hr
        intro v R' H' S' Z st rv
        have rv : Rep K R' H' t v Z := rv
        unfold frz at post
        cases hd : toD t with
        | none => rw [hd] at post; exact post v R' H' S' Z st rv
        | some d =>
          rw [hd] at post
          exact post v _ H' S' NoA (st.froz rv.there) (Rep.dat (rv.froz (fun a z => (st.zf a z).1) (fun _ z => z) hd))
theorem ej_fz {X : Cx} {W : WX} {e : Expr} {f : Es} (h : EJ X W e f) : EJ X W e (eFz f) := PE.imp h fun _ _ _ h => eFz_imp h
section
variable {X : Cx} {W : WX} {B : List Nat} {elt tg iter : Expr} {ifs : List Expr} {scope : Scope} {own : List (Str × Nat)} {pos : Pos} {fi : Is} {gt : Gs} {fc fe : Es}
/-- slot = a comprehension whose list nobody changes -/
theorem sj_compF {i : Nat} {y : Str} {py : Pos} {spos : Pos} {B' : List Nat} (hc : X.calm = true) (hN : X.N.Nodup) (hb : i ∉ B') (hy : X.N[i]? = some y) (hyl : X.env.scope.names.lookup y = some .local)
    (hsw : swapsWith (.ListComp elt [⟨tg, iter, ifs, 0⟩] scope pos) (some (.Name y py)) spos.line X.env = pure true) (cov : ∀ j, j < X.N.length → j ∈ own.map (·.2) ∨ j ∈ B) (hi : IJ X W tg iter fi) (ok : BlkOk X.N X.env.scope scope own)
    (hg : ∀ (s : Shared) (H : Hp) (C : Addr) (cl : List (Str × Addr)) (fp : List Addr), GJ (X.blk s H scope (compEnvC scope cl C X.env) fp) B tg gt) (ht : ∀ (s : Shared) (H : Hp) (C : Addr) (cl : List (Str × Addr)) (fp : List Addr), CJ (X.blk s H scope (compEnvC scope cl C X.env) fp) W0 ifs fc)
    (he : ∀ (s : Shared) (H : Hp) (C : Addr) (cl : List (Str × Addr)) (fp : List Addr), EJ (X.blk s H scope (compEnvC scope cl C X.env) fp) W0 elt fe) (hs : ∀ x, foldedSetIterable iter X.env x = pure x := by intro _; rfl) :
    SJ X W B' (.Assign [.Name y py] (.ListComp elt [⟨tg, iter, ifs, 0⟩] scope pos) spos) (sSet i (eFz (eComp fi gt fc fe (own.map (·.2))))) :=
  PS.impL (ps_setLc hc hN hy hyl hsw hi ok hg ht he hs) fun σ H D l h => eComp_imp (fun i hi => by rw [l]; exact own_lt ok i hi) (fun j hj => cov j (by rw [← l]; exact hj)) (eFz_imp (sSet_imp hb h))
end
end VS

set_option Elab.async false
set_option linter.all false
set_option maxRecDepth 100000
/-! Value semantics, 21: what has to hold ahead, so that a wish holds behind: by continuations, for simp. -/
namespace VS
open PySem PySem.Spec PyProof.Rows L2

def wO {α : Type} (o : Option α) (Q : α → Prop) : Prop := ∃ p, o = some p ∧ Q p
theorem wO_some {α : Type} {p : α} {Q : α → Prop} : wO (some p) Q = Q p := propext ⟨fun ⟨_, e, h⟩ => by cases e; exact h, fun h => ⟨p, rfl, h⟩⟩
theorem wO_none {α : Type} {Q : α → Prop} : wO none Q = False := propext ⟨fun ⟨_, e, _⟩ => (nomatch e), False.elim⟩
theorem wO_map {α β : Type} {o : Option α} {f : α → β} {Q : β → Prop} : wO (o.map f) Q = wO o fun x => Q (f x) := by
  cases o with
  | none => rw [Option.map_none, wO_none, wO_none]
  | some x => rw [Option.map_some, wO_some, wO_some]
theorem wO_ite {α : Type} {c : Prop} [Decidable c] {o : Option α} {Q : α → Prop} : wO (if c then o else none) Q = (c ∧ wO o Q) := by
  by_cases h : c
  · rw [if_pos h]; exact propext ⟨fun z => ⟨h, z⟩, fun z => z.2⟩
  · rw [if_neg h, wO_none]; exact propext ⟨False.elim, fun z => h z.1⟩
theorem wO_of {α : Type} {o : Option α} {p : α} {Q : α → Prop} (e : o = some p) (h : Q p) : wO o Q := ⟨p, e, h⟩
theorem wO_mono {α : Type} {o : Option α} {Q Q' : α → Prop} (h : wO o Q) (k : ∀ p, Q p → Q' p) : wO o Q' := let ⟨p, e, q⟩ := h; ⟨p, e, k p q⟩
abbrev WE (f : Es) (env : List T) (Q : Er → Prop) : Prop := wO (f env) Q
abbrev WS (f : Ss) (env : List T) (Q : Out → Prop) : Prop := wO (f env) Q
abbrev WA (f : As) (env : List T) (Q : Arx → Prop) : Prop := wO (f env) Q
abbrev WI (f : Is) (env : List T) (Q : Ix → Prop) : Prop := wO (f env) Q
abbrev WF (f : Fs) (ts : List T) (Q : Fo → Prop) : Prop := wO (f ts) Q

section
variable {env : List T} {Q : Er → Prop} {i : Nat} {f fa fb fc : Es} {g : As} {op op' : PV → PV → Option PV}
theorem w_var : WE (eVar i) env Q = wO (env[i]?) fun t => wO (mkV t) fun p => Q (.ok true p env) := by
  unfold eVar
  show wO (match env[i]? with | some t => (mkV t).map fun p => Er.ok true p env | none => none) Q = _
  cases env[i]? with
  | none => simp only [wO_none]
  | some t => simp only [wO_some, wO_map]
def kMv (i : Nat) (env : List T) (Q : Er → Prop) : T → Prop
  | .un => False
  | .vw _ => False
  | t => Q (.ok false (.fr t) (env.set i .un))
theorem w_mv : WE (eMv i) env Q = wO (env[i]?) (kMv i env Q) := by
  unfold eMv
  show wO (match env[i]? with | some .un => none | some (.vw _) => none | some t => some (Er.ok false (.fr t) (env.set i .un)) | none => none) Q = _
  cases env[i]? with
  | none => simp only [wO_none]
  | some t => cases t <;> simp only [wO_some, wO_none, kMv]
theorem w_c {d : D} : WE (eC d) env Q = Q (.ok true (.fr (.dat d)) env) := wO_some
def k2b (op : PV → PV → Option PV) (qa : Bool) (a : PV) (Q : Er → Prop) : Er → Prop
  | .ok qb b e2 => (a.held || qb) = true ∧ wO (op a b) fun p => Q (.ok (qa && qb) p e2)
  | .x ex e => Q (.x ex e)
def k2 (op : PV → PV → Option PV) (fb : Es) (Q : Er → Prop) : Er → Prop
  | .ok qa a e1 => WE fb e1 (k2b op qa a Q)
  | .x ex e => Q (.x ex e)
theorem w_2 : WE (e2 op fa fb) env Q = WE fa env (k2 op fb Q) := by
  unfold e2
  show wO (match fa env with | some (.ok qa a env1) => _ | r => r) Q = wO (fa env) _
  cases fa env with
  | none => simp only [wO_none]
  | some r => cases r with
    | x ex e => simp only [wO_some, k2]
    | ok qa a e1 =>
      simp only [wO_some, k2]
      show wO (match fb e1 with | some (.ok qb b env2) => _ | r => r) Q = wO (fb e1) _
      cases fb e1 with
      | none => simp only [wO_none]
      | some r => cases r with
        | x ex e => simp only [wO_some, k2b]
        | ok qb b e2 => simp only [wO_some, k2b, wO_ite, wO_map]
def kQ (q : Bool) (Q : Er → Prop) : Er → Prop
  | .ok q2 p2 e2 => Q (.ok (q && q2) p2 e2)
  | .x ex e => Q (.x ex e)
theorem w_q {q : Bool} {r : Option Er} : wO (match r with | some (.ok q2 p2 env2) => some (.ok (q && q2) p2 env2) | r => r) Q = wO r (kQ q Q) := by
  cases r with
  | none => simp only [wO_none]
  | some r => cases r <;> simp only [wO_some, kQ]
def kAnd (fb : Es) (Q : Er → Prop) : Er → Prop
  | .ok q p e => wO (pB p) fun k => if k = true then WE fb e (kQ q Q) else Q (.ok q (vBl false) e)
  | .x ex e => Q (.x ex e)
theorem w_and : WE (eAnd fa fb) env Q = WE fa env (kAnd fb Q) := by
  unfold eAnd
  show wO (match fa env with | some (.ok q p env1) => _ | r => r) Q = wO (fa env) _
  cases fa env with
  | none => simp only [wO_none]
  | some r => cases r with
    | x ex e => simp only [wO_some, kAnd]
    | ok q p e =>
      simp only [wO_some, kAnd]
      cases pB p with
      | none => simp only [wO_none]
      | some k => cases k with
        | true => simp only [wO_some, if_true]; exact w_q
        | false => simp only [wO_some, if_false, Bool.false_eq_true]
def kOr (fb : Es) (Q : Er → Prop) : Er → Prop
  | .ok q p e => wO (pB p) fun k => if k = true then Q (.ok q (vBl true) e) else WE fb e (kQ q Q)
  | .x ex e => Q (.x ex e)
theorem w_or : WE (eOr fa fb) env Q = WE fa env (kOr fb Q) := by
  unfold eOr
  show wO (match fa env with | some (.ok q p env1) => _ | r => r) Q = wO (fa env) _
  cases fa env with
  | none => simp only [wO_none]
  | some r => cases r with
    | x ex e => simp only [wO_some, kOr]
    | ok q p e =>
      simp only [wO_some, kOr]
      cases pB p with
      | none => simp only [wO_none]
      | some k => cases k with
        | true => simp only [wO_some, if_true]
        | false => simp only [wO_some, if_false, Bool.false_eq_true]; exact w_q
def kNot (Q : Er → Prop) : Er → Prop
  | .ok q p e => wO (pB p) fun b => Q (.ok q (vBl (!b)) e)
  | .x ex e => Q (.x ex e)
theorem w_not : WE (eNot fa) env Q = WE fa env (kNot Q) := by
  unfold eNot
  show wO (match fa env with | some (.ok q p env1) => _ | r => r) Q = wO (fa env) _
  cases fa env with
  | none => simp only [wO_none]
  | some r => cases r <;> simp only [wO_some, wO_map, kNot]
def kIf (fa fb : Es) (Q : Er → Prop) : Er → Prop
  | .ok q p e => wO (pB p) fun k => if k = true then WE fa e (kQ q Q) else WE fb e (kQ q Q)
  | .x ex e => Q (.x ex e)
theorem w_if : WE (eIf fc fa fb) env Q = WE fc env (kIf fa fb Q) := by
  unfold eIf
  show wO (match fc env with | some (.ok q p env1) => _ | r => r) Q = wO (fc env) _
  cases fc env with
  | none => simp only [wO_none]
  | some r => cases r with
    | x ex e => simp only [wO_some, kIf]
    | ok q p e =>
      simp only [wO_some, kIf]
      cases pB p with
      | none => simp only [wO_none]
      | some k => cases k with
        | true => simp only [wO_some, if_true]; exact w_q
        | false => simp only [wO_some, if_false, Bool.false_eq_true]; exact w_q
def kChc (op' : PV → PV → Option PV) (qa qb : Bool) (b : PV) (Q : Er → Prop) : Er → Prop
  | .ok qc c e3 => (b.held || qc) = true ∧ wO (op' b c) fun p => Q (.ok (qa && (qb && qc)) p e3)
  | .x ex e => Q (.x ex e)
def kChb (op op' : PV → PV → Option PV) (fc : Es) (qa : Bool) (a : PV) (Q : Er → Prop) : Er → Prop
  | .ok qb b e2 => (a.held || qb) = true ∧ wO (op a b) fun p => wO (pB p) fun k => if k = true then WE fc e2 (kChc op' qa qb b Q) else Q (.ok (qa && qb) (vBl false) e2)
  | .x ex e => Q (.x ex e)
def kCh (op op' : PV → PV → Option PV) (fb fc : Es) (Q : Er → Prop) : Er → Prop
  | .ok qa a e1 => WE fb e1 (kChb op op' fc qa a Q)
  | .x ex e => Q (.x ex e)
theorem w_ch : WE (eCh op op' fa fb fc) env Q = WE fa env (kCh op op' fb fc Q) := by
  unfold eCh
  show wO (match fa env with | some (.ok qa a e1) => _ | r => r) Q = wO (fa env) _
  cases fa env with
  | none => simp only [wO_none]
  | some r => cases r with
    | x ex e => simp only [wO_some, kCh]
    | ok qa a e1 =>
      simp only [wO_some, kCh]
      show wO (match fb e1 with | some (.ok qb b env2) => _ | r => r) Q = wO (fb e1) _
      cases fb e1 with
      | none => simp only [wO_none]
      | some r => cases r with
        | x ex e => simp only [wO_some, kChb]
        | ok qb b e2 =>
          simp only [wO_some, kChb, wO_ite]
          congr 1
          cases op a b with
          | none => simp only [wO_none]
          | some p =>
            simp only [wO_some]
            cases pB p with
            | none => simp only [wO_none]
            | some k => cases k with
              | false => simp only [wO_some, if_false, Bool.false_eq_true]
              | true =>
                simp only [wO_some, if_true]
                show wO (match fc e2 with | some (.ok qc c e3) => _ | r => r) Q = wO (fc e2) _
                cases fc e2 with
                | none => simp only [wO_none]
                | some r => cases r with
                  | x ex e => simp only [wO_some, kChc]
                  | ok qc c e3 => simp only [wO_some, kChc, wO_ite, wO_map]
def kNeg (Q : Er → Prop) : Er → Prop
  | .ok q p e => wO (pI p) fun i => Q (.ok q (vInt (-i)) e)
  | .x ex e => Q (.x ex e)
theorem w_neg : WE (eNeg fa) env Q = WE fa env (kNeg Q) := by
  unfold eNeg
  show wO (match fa env with | some (.ok q p env1) => _ | r => r) Q = wO (fa env) _
  cases fa env with
  | none => simp only [wO_none]
  | some r => cases r with
    | x ex e => simp only [wO_some, kNeg]
    | ok q p e =>
      simp only [wO_some, kNeg, pI]
      cases pD p with
      | none => simp only [wO_none]
      | some d => cases d <;> simp only [wO_some, wO_none]
def frzV : PV → PV
  | .fr t => .fr (frz t)
  | p => p
def kFz (Q : Er → Prop) : Er → Prop
  | .ok q p e => Q (.ok q (frzV p) e)
  | .x ex e => Q (.x ex e)
theorem w_fz : WE (eFz fa) env Q = WE fa env (kFz Q) := by
  unfold eFz
  show wO (match fa env with | some (.ok q (.fr t) e) => _ | r => r) Q = wO (fa env) _
  cases fa env with
  | none => simp only [wO_none]
  | some r => cases r with
    | x ex e => simp only [wO_some, kFz]
    | ok q p e => cases p <;> simp only [wO_some, kFz, frzV]
/-! argument lists -/
variable {A : Arx → Prop}
theorem w_nil : WA aNil env A = A (.ok true [] env) := wO_some
def kConsB (q : Bool) (p : PV) (A : Arx → Prop) : Arx → Prop
  | .ok q2 l e => (p.held || q2) = true ∧ A (.ok (q && q2) (.v p :: l) e)
  | .x ex e => A (.x ex e)
def kCons (g : As) (A : Arx → Prop) : Er → Prop
  | .ok q p e => WA g e (kConsB q p A)
  | .x ex e => A (.x ex e)
theorem w_cons : WA (aCons fa g) env A = WE fa env (kCons g A) := by
  unfold aCons
  show wO (match fa env with | some (.ok q p env1) => _ | some (.x ex e) => _ | none => none) A = wO (fa env) _
  cases fa env with
  | none => simp only [wO_none]
  | some r => cases r with
    | x ex e => simp only [wO_some, kCons]
    | ok q p e =>
      simp only [wO_some, kCons]
      show wO (match g e with | some (.ok q2 l env2) => _ | r => r) A = wO (g e) _
      cases g e with
      | none => simp only [wO_none]
      | some r => cases r with
        | x ex e => simp only [wO_some, kConsB]
        | ok q2 l e2 => simp only [wO_some, kConsB, wO_ite]
def kMutA (i : Nat) (A : Arx → Prop) : Arx → Prop
  | .ok q l e => A (.ok q (.m i :: l) e)
  | .x ex e => A (.x ex e)
def kUn (P : Prop) : T → Prop
  | .un => False
  | _ => P
theorem w_amut : WA (aMut i g) env A = wO (env[i]?) (kUn (WA g env (kMutA i A))) := by
  unfold aMut
  show wO (match env[i]? with | some .un => none | some t => (match g env with | some (.ok q l env2) => some (Arx.ok q (.m i :: l) env2) | r => r) | none => none) A = _
  cases env[i]? with
  | none => simp only [wO_none]
  | some t =>
    have go : wO (match g env with | some (.ok q l env2) => some (Arx.ok q (.m i :: l) env2) | r => r) A = WA g env (kMutA i A) := by
      show _ = wO (g env) _
      cases g env with
      | none => simp only [wO_none]
      | some r => cases r <;> simp only [wO_some, kMutA]
    cases t <;> simp only [wO_some, wO_none, kUn] <;> exact go
/-! displays, built-ins, calls -/
def kDisp (mk : List T → T) (Q : Er → Prop) : Arx → Prop
  | .ok q l e => wO (keeps l) fun ts => ts.length ≤ sizeLine ∧ Q (.ok q (.fr (mk ts)) e)
  | .x ex e => Q (.x ex e)
theorem w_disp {mk : List T → T} : WE (eDisp mk g) env Q = WA g env (kDisp mk Q) := by
  unfold eDisp
  show wO (match g env with | some (.ok q l e) => _ | some (.x ex e) => _ | none => none) Q = wO (g env) _
  cases g env with
  | none => simp only [wO_none]
  | some r => cases r with
    | x ex e => simp only [wO_some, kDisp]
    | ok q l e =>
      simp only [wO_some, kDisp]
      cases keeps l with
      | none => simp only [wO_none]
      | some ts => simp only [wO_some, wO_ite]
def kB (op : List PV → Option PV) (Q : Er → Prop) : Arx → Prop
  | .ok q l e => wO (valsA l) fun ps => wO (op ps) fun p => Q (.ok q p e)
  | .x ex e => Q (.x ex e)
theorem w_b {op : List PV → Option PV} : WE (eB op g) env Q = WA g env (kB op Q) := by
  unfold eB
  show wO (match g env with | some (.ok q l e) => _ | some (.x ex e) => _ | none => none) Q = wO (g env) _
  cases g env with
  | none => simp only [wO_none]
  | some r => cases r with
    | x ex e => simp only [wO_some, kB]
    | ok q l e =>
      simp only [wO_some, kB, wO_map]
      cases valsA l with
      | none => simp only [Option.bind_none, wO_none]
      | some ps => simp only [Option.bind_some, wO_some]
def kIsi (u : String) (Q : Er → Prop) : Er → Prop
  | .ok q p e => wO (tyT p.tr) fun n => Q (.ok q (vBl (isTy n u)) e)
  | .x ex e => Q (.x ex e)
theorem w_isi {u : String} : WE (eIsi u fa) env Q = WE fa env (kIsi u Q) := by
  unfold eIsi
  show wO (match fa env with | some (.ok q p e) => _ | r => r) Q = wO (fa env) _
  cases fa env with
  | none => simp only [wO_none]
  | some r => cases r <;> simp only [wO_some, wO_map, kIsi]
def kFo (q : Bool) (l : List Ar) (e : List T) (Q : Er → Prop) : Fo → Prop
  | .ret t ts' => okM l ts' = true ∧ Q (.ok (q && (ms l).isEmpty) (.fr t) (putM (unM e l) l ts'))
  | .exc ex ts' => okM l ts' = true ∧ Q (.x ex (putM (unM e l) l ts'))
def kCall (F : Fs) (Q : Er → Prop) : Arx → Prop
  | .ok q l e => (((ms l).isEmpty || noVw l) && decide (ms l).Nodup) = true ∧ wO (arTs e l) fun ts => WF F ts (kFo q l e Q)
  | .x ex e => Q (.x ex e)
theorem w_call {F : Fs} : WE (eCall F g) env Q = WA g env (kCall F Q) := by
  unfold eCall
  show wO (match g env with | some (.ok q l e) => _ | some (.x ex e) => _ | none => none) Q = wO (g env) _
  cases g env with
  | none => simp only [wO_none]
  | some r => cases r with
    | x ex e => simp only [wO_some, kCall]
    | ok q l e =>
      simp only [wO_some, kCall, wO_ite]
      congr 1
      cases arTs e l with
      | none => simp only [wO_none]
      | some ts =>
        simp only [wO_some]
        show wO (match F ts with | some (.ret t ts') => _ | some (.exc ex ts') => _ | none => none) Q = wO (F ts) _
        cases F ts with
        | none => simp only [wO_none]
        | some r => cases r <;> simp only [wO_some, kFo, wO_ite]
def kRev (Q : Er → Prop) : Er → Prop
  | .ok q p e => wO (opRev p) fun p' => Q (.ok q p' e)
  | .x ex e => Q (.x ex e)
theorem w_rev : WE (eRev fa) env Q = WE fa env (kRev Q) := by
  unfold eRev
  show wO (match fa env with | some (.ok q p e) => _ | r => r) Q = wO (fa env) _
  cases fa env with
  | none => simp only [wO_none]
  | some r => cases r <;> simp only [wO_some, wO_map, kRev]
/-! slices -/
def kPartB (K : Option Int → Bool → List T → Prop) (Q : Er → Prop) : Er → Prop
  | .ok q p e => wO (pI p) fun i => K (some i) q e
  | .x ex e => Q (.x ex e)
def kPart (f : Option Es) (e : List T) (K : Option Int → Bool → List T → Prop) (Q : Er → Prop) : Prop := match f with
  | none => K none true e
  | some f => WE f e (kPartB K Q)
def kSlc (a : PV) (q q1 : Bool) (l : Option Int) (Q : Er → Prop) (h : Option Int) (q2 : Bool) (e3 : List T) : Prop := (a.held || (q1 && q2)) = true ∧ wO (opSl a l h) fun p => Q (.ok (q && q1 && q2) p e3)
def kSlb (hi : Option Es) (a : PV) (q : Bool) (Q : Er → Prop) (l : Option Int) (q1 : Bool) (e2 : List T) : Prop := kPart hi e2 (kSlc a q q1 l Q) Q
def kSl (lo hi : Option Es) (Q : Er → Prop) : Er → Prop
  | .ok q a e1 => kPart lo e1 (kSlb hi a q Q) Q
  | .x ex e => Q (.x ex e)
theorem part_eq {f : Option Es} {e : List T} {K : Option Int → Bool → List T → Prop} {M : Option Int → Bool → List T → Option Er} (hM : ∀ l q e2, wO (M l q e2) Q = K l q e2) :
    wO (match oPart f e with | some (some (l, q, e2)) => M l q e2 | some none => oErr f e | none => none) Q = kPart f e K Q := by
  cases f with
  | none => exact hM none true e
  | some f =>
    show _ = wO (f e) _
    cases hf : f e with
    | none => simp only [oPart, hf, wO_none]
    | some r => cases r with
      | x ex e' => simp only [oPart, oErr, hf, wO_some, kPartB]
      | ok q p e' =>
        simp only [oPart, hf, wO_some, kPartB]
        cases hi : pI p with
        | none => simp only [Option.map_none, wO_none]
        | some i => simp only [Option.map_some, wO_some]; exact hM _ _ _
theorem w_sl {lo hi : Option Es} : WE (eSl fa lo hi) env Q = WE fa env (kSl lo hi Q) := by
  unfold eSl
  show wO (match fa env with | some (.ok q a e1) => _ | r => r) Q = wO (fa env) _
  cases fa env with
  | none => simp only [wO_none]
  | some r => cases r with
    | x ex e => simp only [wO_some, kSl]
    | ok q a e1 =>
      simp only [wO_some, kSl]
      refine part_eq (M := fun l q1 e2 => match oPart hi e2 with | some (some (h, q2, e3)) => if (a.held || (q1 && q2)) = true then (opSl a l h).map fun p => .ok (q && q1 && q2) p e3 else none | some none => oErr hi e2 | none => none) fun l q1 e2 => ?_
      refine part_eq (M := fun h q2 e3 => if (a.held || (q1 && q2)) = true then (opSl a l h).map fun p => .ok (q && q1 && q2) p e3 else none) fun h q2 e3 => ?_
      simp only [wO_ite, wO_map, kSlc]
/-! slots changed in their places -/
def kMutT (k : T → Bool) (i : Nat) (mo : T → List PV → Option (T × T)) (l : List Ar) (e : List T) (Q : Er → Prop) (t : T) : Prop :=
  k t = true ∧ wO (valsA l) fun ps => wO (mo t ps) fun r => Q (.ok false (.fr r.2) (e.set i r.1))
def kMutR (k : T → Bool) (i : Nat) (mo : T → List PV → Option (T × T)) (Q : Er → Prop) : Arx → Prop
  | .ok _ l e => wO (e[i]?) (kMutT k i mo l e Q)
  | .x ex e => Q (.x ex e)
theorem w_mut {k : T → Bool} {mo : T → List PV → Option (T × T)} : WE (eMut k i mo g) env Q = wO (env[i]?) fun t0 => k t0 = true ∧ WA g env (kMutR k i mo Q) := by
  unfold eMut
  show wO (match env[i]? with | some t0 => (if k t0 = true then (match g env with | some (.ok _ l e) => (match e[i]? with | some t => (if k t = true then ((valsA l).bind (mo t)).map fun r => Er.ok false (.fr r.2) (e.set i r.1) else none) | none => none) | some (.x ex e) => some (.x ex e) | none => none) else none) | none => none) Q = _
  cases env[i]? with
  | none => simp only [wO_none]
  | some t0 =>
    simp only [wO_some, wO_ite]
    congr 1
    show wO (match g env with | some (.ok q l e) => _ | some (.x ex e) => _ | none => none) Q = wO (g env) _
    cases g env with
    | none => simp only [wO_none]
    | some r => cases r with
      | x ex e => simp only [wO_some, kMutR]
      | ok q l e =>
        simp only [wO_some, kMutR]
        cases e[i]? with
        | none => simp only [wO_none]
        | some t =>
          simp only [wO_some, wO_ite, kMutT, wO_map]
          congr 1
          cases valsA l with
          | none => simp only [Option.bind_none, wO_none]
          | some ps => simp only [Option.bind_some, wO_some]
end
section
variable {env : List T} {Q : Out → Prop} {i : Nat} {f : Es} {g g' : Ss} {gt : Gs} {fi : Is}
theorem w_snil : WS sNil env Q = Q (.nx env) := wO_some
def kSeq (g' : Ss) (Q : Out → Prop) : Out → Prop
  | .nx e => WS g' e Q
  | .rt t e => Q (.rt t e)
  | .bk e => Q (.bk e)
  | .ct e => Q (.ct e)
  | .x ex e => Q (.x ex e)
theorem w_seq : WS (sSeq g g') env Q = WS g env (kSeq g' Q) := by
  unfold sSeq
  show wO (match g env with | some (.nx e) => _ | r => r) Q = wO (g env) _
  cases g env with
  | none => simp only [wO_none]
  | some r => cases r <;> simp only [wO_some, kSeq]
def kSet (i : Nat) (Q : Out → Prop) : Er → Prop
  | .ok _ p e => wO (keep p) fun t => i < e.length ∧ Q (.nx (e.set i t))
  | .x ex e => Q (.x ex e)
theorem w_set : WS (sSet i f) env Q = WE f env (kSet i Q) := by
  unfold sSet
  show wO (match f env with | some (.ok q p e) => _ | some (.x ex e) => _ | none => none) Q = wO (f env) _
  cases f env with
  | none => simp only [wO_none]
  | some r => cases r with
    | x ex e => simp only [wO_some, kSet]
    | ok q p e =>
      simp only [wO_some, kSet]
      cases keep p with
      | none => simp only [wO_none]
      | some t => simp only [wO_some, wO_ite]
def kRet (Q : Out → Prop) : Er → Prop
  | .ok _ p e => wO (keep p) fun t => Q (.rt t e)
  | .x ex e => Q (.x ex e)
theorem w_ret : WS (sRet f) env Q = WE f env (kRet Q) := by
  unfold sRet
  show wO (match f env with | some (.ok q p e) => _ | some (.x ex e) => _ | none => none) Q = wO (f env) _
  cases f env with
  | none => simp only [wO_none]
  | some r => cases r <;> simp only [wO_some, kRet, wO_map]
def kExpr (Q : Out → Prop) : Er → Prop
  | .ok _ _ e => Q (.nx e)
  | .x ex e => Q (.x ex e)
theorem w_expr : WS (sExpr f) env Q = WE f env (kExpr Q) := by
  unfold sExpr
  show wO (match f env with | some (.ok q p e) => _ | some (.x ex e) => _ | none => none) Q = wO (f env) _
  cases f env with
  | none => simp only [wO_none]
  | some r => cases r <;> simp only [wO_some, kExpr]
def kIfS (g g' : Ss) (Q : Out → Prop) : Er → Prop
  | .ok _ p e => wO (pB p) fun k => if k = true then WS g e Q else WS g' e Q
  | .x ex e => Q (.x ex e)
theorem w_ifs : WS (sIf f g g') env Q = WE f env (kIfS g g' Q) := by
  unfold sIf
  show wO (match f env with | some (.ok q p e) => _ | some (.x ex e) => _ | none => none) Q = wO (f env) _
  cases f env with
  | none => simp only [wO_none]
  | some r => cases r with
    | x ex e => simp only [wO_some, kIfS]
    | ok q p e =>
      simp only [wO_some, kIfS]
      cases pB p with
      | none => simp only [wO_none]
      | some k => cases k <;> simp only [wO_some, if_true, if_false, Bool.false_eq_true]
def kAsg (gt : Gs) (Q : Out → Prop) : Er → Prop
  | .ok _ p e => wO (keep p) fun t => wO (gt t e) fun e2 => Q (.nx e2)
  | .x ex e => Q (.x ex e)
theorem w_asg : WS (sAsg gt f) env Q = WE f env (kAsg gt Q) := by
  unfold sAsg
  show wO (match f env with | some (.ok q p e) => _ | some (.x ex e) => _ | none => none) Q = wO (f env) _
  cases f env with
  | none => simp only [wO_none]
  | some r => cases r with
    | x ex e => simp only [wO_some, kAsg]
    | ok q p e =>
      simp only [wO_some, kAsg]
      cases keep p with
      | none => simp only [wO_none]
      | some t => simp only [wO_some, wO_map]
def kStoT (i : Nat) (st : T → PV → T → Option T) (ip : PV) (u : T) (e : List T) (Q : Out → Prop) (t : T) : Prop := (isL t || isDc t) = true ∧ wO (st t ip u) fun t' => Q (.nx (e.set i t'))
def kStoI (i : Nat) (st : T → PV → T → Option T) (u : T) (e : List T) (Q : Out → Prop) : Er → Prop
  | .ok q ip _ => q = true ∧ wO (e[i]?) (kStoT i st ip u e Q)
  | .x _ _ => False
def kSto (i : Nat) (st : T → PV → T → Option T) (fi : Es) (Q : Out → Prop) : Er → Prop
  | .ok _ p e => wO (keep p) fun u => WE fi e (kStoI i st u e Q)
  | .x ex e => Q (.x ex e)
theorem w_sto {st : T → PV → T → Option T} {fx : Es} : WS (sSto i st fx f) env Q = WE f env (kSto i st fx Q) := by
  unfold sSto
  show wO (match f env with | some (.ok q p e) => _ | some (.x ex e) => _ | none => none) Q = wO (f env) _
  cases f env with
  | none => simp only [wO_none]
  | some r => cases r with
    | x ex e => simp only [wO_some, kSto]
    | ok q p e =>
      simp only [wO_some, kSto]
      cases keep p with
      | none => simp only [wO_none]
      | some u =>
        simp only [wO_some]
        show wO (match fx e with | some (.ok true ip _) => _ | _ => none) Q = wO (fx e) _
        cases fx e with
        | none => simp only [wO_none]
        | some r => cases r with
          | x ex e => simp only [wO_some, wO_none, kStoI]
          | ok q ip e2 => cases q with
            | false => simp only [wO_some, wO_none, kStoI, Bool.false_eq_true, false_and]
            | true =>
              simp only [wO_some, kStoI, true_and]
              cases e[i]? with
              | none => simp only [wO_none]
              | some t => simp only [wO_some, kStoT, wO_ite, wO_map, Bool.or_eq_true]
/-! loops -/
abbrev WL (gt : Gs) (g : Ss) (ds : List D) (e : List T) (Q : Out → Prop) : Prop := wO (loopF gt g ds e) Q
def kFor (gt : Gs) (g : Ss) (Q : Out → Prop) : Ix → Prop
  | .ok _ ds e => WL gt g ds e Q
  | .x ex e => Q (.x ex e)
theorem w_for : WS (sFor fi gt g) env Q = WI fi env (kFor gt g Q) := by
  unfold sFor
  show wO (match fi env with | some (.ok q p e) => _ | some (.x ex e) => _ | none => none) Q = wO (fi env) _
  cases fi env with
  | none => simp only [wO_none]
  | some r => cases r <;> simp only [wO_some, kFor]
theorem w_lnil : WL gt g [] env Q = Q (.nx env) := wO_some
def kLp (gt : Gs) (g : Ss) (ds : List D) (Q : Out → Prop) : Out → Prop
  | .nx e => WL gt g ds e Q
  | .ct e => WL gt g ds e Q
  | .bk e => Q (.nx e)
  | .rt t e => Q (.rt t e)
  | .x ex e => Q (.x ex e)
theorem w_lcons {d : D} {ds : List D} : WL gt g (d :: ds) env Q = wO (gt (.dat d) env) fun e1 => WS g e1 (kLp gt g ds Q) := by
  show wO (loopF gt g (d :: ds) env) Q = _
  rw [loopF]
  cases gt (.dat d) env with
  | none => simp only [wO_none]
  | some e1 =>
    simp only [wO_some]
    show wO (match g e1 with | some (.nx e2) => _ | some (.ct e2) => _ | some (.bk e2) => _ | r => r) Q = wO (g e1) _
    cases g e1 with
    | none => simp only [wO_none]
    | some r => cases r <;> simp only [wO_some, kLp]
/-- an invariant by the items that are left -/
theorem w_inv (I : List D → List T → Prop) : ∀ {ds : List D} {env : List T}, I ds env → (∀ d r e, I (d :: r) e → wO (gt (.dat d) e) fun e1 => WS g e1 fun o => match o with
    | .nx e2 => I r e2
    | .ct e2 => I r e2
    | .bk e2 => Q (.nx e2)
    | .rt t e2 => Q (.rt t e2)
    | .x ex e2 => Q (.x ex e2)) → (∀ e, I [] e → Q (.nx e)) → WL gt g ds env Q
  | [], env, h, _, k => by rw [w_lnil]; exact k env h
  | d :: r, env, h, st, k => by
    rw [w_lcons]
    refine wO_mono (st d r env h) fun e1 h1 => wO_mono h1 fun o h2 => ?_
    cases o with
    | nx e2 => exact w_inv I h2 st k
    | ct e2 => exact w_inv I h2 st k
    | bk e2 => exact h2
    | rt t e2 => exact h2
    | x ex e2 => exact h2
end
section
variable {env : List T} {Q : Ix → Prop} {f fa fb : Es} {sel : PV → Option (List D)}
def kOf (sel : PV → Option (List D)) (Q : Ix → Prop) : Er → Prop
  | .ok q p e => p.held = true ∧ wO (sel p) fun ds => Q (.ok q ds e)
  | .x ex e => Q (.x ex e)
theorem w_iof : WI (iOf sel f) env Q = WE f env (kOf sel Q) := by
  unfold iOf
  show wO (match f env with | some (.ok q p e) => _ | some (.x ex e) => _ | none => none) Q = wO (f env) _
  cases f env with
  | none => simp only [wO_none]
  | some r => cases r <;> simp only [wO_some, kOf, wO_ite, wO_map]
def kRng (Q : Ix → Prop) : Arx → Prop
  | .ok q [.v a] e => wO (pI a) fun j => inR j = true ∧ Q (.ok q (rngD 0 j.toNat) e)
  | .ok q [.v a, .v b] e => wO (pI a) fun i => wO (pI b) fun j => (inR i && inR j) = true ∧ Q (.ok q (rngD i (j - i).toNat) e)
  | .ok _ _ _ => False
  | .x ex e => Q (.x ex e)
theorem w_rng {g : As} : WI (iRng g) env Q = WA g env (kRng Q) := by
  unfold iRng
  show wO (match g env with | some (.ok q [.v a] e) => _ | some (.ok q [.v a, .v b] e) => _ | some (.ok _ _ _) => none | some (.x ex e) => _ | none => none) Q = wO (g env) _
  cases g env with
  | none => simp only [wO_none]
  | some r => cases r with
    | x ex e => simp only [wO_some, kRng]
    | ok q l e =>
      match l with
      | [] => simp only [wO_some, wO_none, kRng]
      | [.v a] =>
        simp only [wO_some, kRng]
        cases pI a with
        | none => simp only [wO_none]
        | some j => simp only [wO_some, wO_ite]
      | [.v a, .v b] =>
        simp only [wO_some, kRng]
        cases pI a with
        | none => simp only [wO_none]
        | some i => cases pI b with
          | none => simp only [wO_none, wO_some]
          | some j => simp only [wO_some, wO_ite]
      | [.m i] => simp only [wO_some, wO_none, kRng]
      | [.v a, .m i] => simp only [wO_some, wO_none, kRng]
      | .m i :: _ :: _ => simp only [wO_some, wO_none, kRng]
      | .v a :: b :: c :: r => simp only [wO_some, wO_none, kRng]
end
/-! defs -/
def kFn (np : Nat) (B : List Nat) (Q : Fo → Prop) : Out → Prop
  | .nx e => Q (.ret (.dat .none) (argsOut B 0 np e))
  | .rt t e => Q (.ret t (argsOut B 0 np e))
  | .x ex e => Q (.exc ex (argsOut B 0 np e))
  | .bk _ => False
  | .ct _ => False
theorem w_fn {n np : Nat} {B : List Nat} {g : Ss} {ts : List T} {Q : Fo → Prop} (h : ts.length = np) : WF (fnF n np B g) ts Q = WS g (ts ++ List.replicate (n - np) .un) (kFn np B Q) := by
  show wO (fnF n np B g ts) Q = wO (g _) _
  unfold fnF
  rw [if_pos h]
  cases g (ts ++ List.replicate (n - np) .un) with
  | none => simp only [wO_none]
  | some r => cases r <;> simp only [wO_some, wO_none, kFn]
/-! comprehensions -/
abbrev WC (gt : Gs) (fc fe : Es) (own : List Nat) (ds : List D) (acc : List T) (q : Bool) (e : List T) (Q : Er → Prop) : Prop := wO (compF gt fc fe own ds acc q e) Q
def kCompQ (q : Bool) (own : List Nat) (e : List T) (Q : Er → Prop) : Er → Prop
  | .ok q2 p e2 => Q (.ok (q && q2) p (if q2 = true then e else restE e e2 own))
  | .x _ _ => False
def kComp (gt : Gs) (fc fe : Es) (own : List Nat) (Q : Er → Prop) : Ix → Prop
  | .ok q ds e => (decide (ds.length ≤ sizeLine) && decide own.Nodup && own.all fun i => calmT (e.getD i .un)) = true ∧ WC gt fc fe own ds [] true (wipeE e own) (kCompQ q own e Q)
  | .x ex e => Q (.x ex e)
section
variable {env : List T} {Q : Er → Prop} {fi : Is} {gt : Gs} {fc fe : Es} {own : List Nat}
theorem w_comp : WE (eComp fi gt fc fe own) env Q = WI fi env (kComp gt fc fe own Q) := by
  unfold eComp
  show wO (match fi env with | some (.ok q ds e) => _ | some (.x ex e) => _ | none => none) Q = wO (fi env) _
  cases fi env with
  | none => simp only [wO_none]
  | some r => cases r with
    | x ex e => simp only [wO_some, kComp]
    | ok q ds e =>
      simp only [wO_some, kComp, wO_ite]
      congr 1
      show wO (match compF gt fc fe own ds [] true (wipeE e own) with | some (.ok q2 p e2) => _ | _ => none) Q = wO (compF gt fc fe own ds [] true (wipeE e own)) _
      cases compF gt fc fe own ds [] true (wipeE e own) with
      | none => simp only [wO_none]
      | some r => cases r <;> simp only [wO_some, wO_none, kCompQ]
theorem w_cnil {acc : List T} {q : Bool} : WC gt fc fe own [] acc q env Q = Q (.ok q (.fr (.lst acc)) env) := wO_some
def kCe (gt : Gs) (fc fe : Es) (own : List Nat) (ds : List D) (acc : List T) (q : Bool) (Q : Er → Prop) : Er → Prop
  | .ok q2 p2 e3 => wO (keep p2) fun t => WC gt fc fe own ds (acc ++ [t]) (q && q2) (wipeE e3 own) Q
  | .x _ _ => False
def kCc (gt : Gs) (fc fe : Es) (own : List Nat) (ds : List D) (acc : List T) (q : Bool) (Q : Er → Prop) : Er → Prop
  | .ok q1 p1 e2 => wO (pB p1) fun k => if k = true then WE fe e2 (kCe gt fc fe own ds acc (q && q1) Q) else WC gt fc fe own ds acc (q && q1) (wipeE e2 own) Q
  | .x _ _ => False
theorem w_ccons {d : D} {ds : List D} {acc : List T} {q : Bool} : WC gt fc fe own (d :: ds) acc q env Q = wO (gt (.dat d) env) fun e1 => WE fc e1 (kCc gt fc fe own ds acc q Q) := by
  show wO (compF gt fc fe own (d :: ds) acc q env) Q = _
  rw [compF]
  cases gt (.dat d) env with
  | none => simp only [wO_none]
  | some e1 =>
    simp only [wO_some]
    show wO (match fc e1 with | some (.ok q1 p1 e2) => _ | _ => none) Q = wO (fc e1) _
    cases fc e1 with
    | none => simp only [wO_none]
    | some r => cases r with
      | x ex e => simp only [wO_some, wO_none, kCc]
      | ok q1 p1 e2 =>
        simp only [wO_some, kCc]
        cases pB p1 with
        | none => simp only [wO_none]
        | some k => cases k with
          | false => simp only [wO_some, if_false, Bool.false_eq_true]
          | true =>
            simp only [wO_some, if_true]
            show wO (match fe e2 with | some (.ok q2 p2 e3) => _ | _ => none) Q = wO (fe e2) _
            cases fe e2 with
            | none => simp only [wO_none]
            | some r => cases r with
              | x ex e => simp only [wO_some, wO_none, kCe]
              | ok q2 p2 e3 =>
                simp only [wO_some, kCe]
                cases keep p2 with
                | none => simp only [wO_none]
                | some t => simp only [wO_some, Bool.and_assoc]
theorem w_yes : WE cYes env Q = Q (.ok true (vBl true) env) := wO_some
end
end VS

set_option Elab.async false
set_option linter.all false
set_option maxRecDepth 100000
/-! Value semantics, 22: data that is small enough to be written out. -/
namespace VS
open PySem PySem.Spec

/-- at most k deep, of weight n at most, no dict, whole numbers that can be written out -/
structure Sm (k n : Nat) (d : D) : Prop where
  ls : d.leavesShort 2000 = true
  sh : d.showable = true
  nd : d.hasDict = false
  dp : d.depth ≤ k
  wt : d.weight ≤ n
theorem Sm.mono {k n k' n' : Nat} {d : D} (h : Sm k n d) (a : k ≤ k') (b : n ≤ n') : Sm k' n' d := ⟨h.ls, h.sh, h.nd, Nat.le_trans h.dp a, Nat.le_trans h.wt b⟩
theorem Sm.repr {k n : Nat} {d : D} (h : Sm k n d) (hk : k ≤ 60) (hn : n ≤ 8000) : reprOk d = true := by
  have l := PyData.shown_le 2000 (by decide) d h.ls
  have dp := h.dp
  have wt := h.wt
  have z : d.shown.length ≤ sizeLine := by
    rw [PySem.sizeLine_eq]
    omega
  unfold reprOk
  rw [h.sh, h.nd, decide_eq_true (by omega : d.depth ≤ 60), decide_eq_true z]
  rfl
theorem Sm.non : Sm 0 0 .none := ⟨rfl, rfl, rfl, Nat.zero_le _, Nat.zero_le _⟩
theorem Sm.bl (b : Bool) : Sm 0 0 (.bool b) := ⟨rfl, rfl, rfl, Nat.zero_le _, Nat.zero_le _⟩
theorem Sm.int {i : Int} (h : i.natAbs < 2 ^ 200) : Sm 0 201 (.int i) := by
  have l : i.natAbs.log2 ≤ 200 := by
    by_cases z : i.natAbs = 0
    · rw [z]; decide
    · exact Nat.le_of_lt ((Nat.log2_lt z).mpr h)
  have t := int_text_length_le (a := i) (k := 1920) (by decide) (by omega)
  refine ⟨?_, ?_, by simp [PyData.hasDict], by simp [PyData.depth], ?_⟩
  · rw [PyData.leavesShort]
    refine decide_eq_true ?_
    rw [PyData.shown]
    have e : (Str.ofString (toString i)).length = (toString i).length := PySem.ofString_length _
    rw [e]
    omega
  · rw [PyData.showable]; exact decide_eq_true (by omega)
  · rw [PyData.weight]
    split <;> omega
theorem lsAll {B : Nat} : ∀ {ds : List D}, (∀ x ∈ ds, x.leavesShort B = true) → PyData.leavesShortAll B ds = true
  | [], _ => rfl
  | x :: ds, h => by rw [PyData.leavesShortAll, h x List.mem_cons_self, lsAll fun y hy => h y (List.mem_cons_of_mem _ hy)]; rfl
theorem shAll : ∀ {ds : List D}, (∀ x ∈ ds, x.showable = true) → PyData.showableAll ds = true
  | [], _ => rfl
  | x :: ds, h => by rw [PyData.showableAll, h x List.mem_cons_self, shAll fun y hy => h y (List.mem_cons_of_mem _ hy)]; rfl
theorem ndAll : ∀ {ds : List D}, (∀ x ∈ ds, x.hasDict = false) → PyData.hasDictAll ds = false
  | [], _ => rfl
  | x :: ds, h => by rw [PyData.hasDictAll, h x List.mem_cons_self, ndAll fun y hy => h y (List.mem_cons_of_mem _ hy)]; rfl
theorem dpAll {k : Nat} : ∀ {ds : List D}, (∀ x ∈ ds, x.depth ≤ k) → PyData.depthAll ds ≤ k
  | [], _ => Nat.zero_le _
  | x :: ds, h => by
    rw [PyData.depthAll]
    exact Nat.max_le.mpr ⟨h x List.mem_cons_self, dpAll fun y hy => h y (List.mem_cons_of_mem _ hy)⟩
theorem wtAll {n : Nat} : ∀ {ds : List D}, (∀ x ∈ ds, x.weight ≤ n) → PyData.weightAll ds ≤ ds.length * (n + 1)
  | [], _ => Nat.zero_le _
  | x :: ds, h => by
    rw [PyData.weightAll, List.length_cons, Nat.succ_mul]
    have a := h x List.mem_cons_self
    have b := wtAll (n := n) fun y hy => h y (List.mem_cons_of_mem _ hy)
    omega
theorem Sm.tup {k n m : Nat} {ds : List D} (h : ∀ x ∈ ds, Sm k n x) (hm : ds.length ≤ m) : Sm (k + 1) (m * (n + 1)) (.tuple ds) := by
  refine ⟨?_, ?_, ?_, ?_, ?_⟩
  · rw [PyData.leavesShort]; exact lsAll fun x hx => (h x hx).ls
  · rw [PyData.showable]; exact shAll fun x hx => (h x hx).sh
  · rw [PyData.hasDict]; exact ndAll fun x hx => (h x hx).nd
  · rw [PyData.depth]; exact Nat.succ_le_succ (dpAll fun x hx => (h x hx).dp)
  · rw [PyData.weight]; exact Nat.le_trans (wtAll fun x hx => (h x hx).wt) (Nat.mul_le_mul_right _ hm)
theorem Sm.lst {k n m : Nat} {ds : List D} (h : ∀ x ∈ ds, Sm k n x) (hm : ds.length ≤ m) : Sm (k + 1) (m * (n + 1)) (.list ds) := by
  refine ⟨?_, ?_, ?_, ?_, ?_⟩
  · rw [PyData.leavesShort]; exact lsAll fun x hx => (h x hx).ls
  · rw [PyData.showable]; exact shAll fun x hx => (h x hx).sh
  · rw [PyData.hasDict]; exact ndAll fun x hx => (h x hx).nd
  · rw [PyData.depth]; exact Nat.succ_le_succ (dpAll fun x hx => (h x hx).dp)
  · rw [PyData.weight]; exact Nat.le_trans (wtAll fun x hx => (h x hx).wt) (Nat.mul_le_mul_right _ hm)
theorem cutL_mem {α : Type} {xs : List α} {lo hi : Option Int} {x : α} (h : x ∈ cutL xs lo hi) : x ∈ xs := by
  unfold cutL at h
  exact List.mem_of_mem_drop (List.mem_of_mem_take h)
theorem cutL_len {α : Type} (xs : List α) (lo hi : Option Int) : (cutL xs lo hi).length ≤ xs.length := by
  unfold cutL
  rw [List.length_take, List.length_drop]
  omega
end VS

set_option Elab.async false
set_option linter.all false
set_option maxRecDepth 100000
/-! Value semantics, 23: what no script comes to; while; defs with defaults that are called with all. -/
namespace VS
open PySem PySem.Spec L2 PyProof.Rows
/-- a statement that is never come to -/
def sStuck : Ss := fun _ => none
theorem sj_stuck {X : Cx} {W : WX} {B : List Nat} {st : Stmt} : SJ X W B st sStuck := ⟨fun pins s σ H D I h => by
  obtain ⟨_, _, _, _, _, _, e, _⟩ := h
  cases e⟩
theorem w_stuck {env : List T} {Q : Out → Prop} : WS sStuck env Q = False := wO_none
/-- an invariant that counts the turns down -/
theorem w_while (I : Nat → List T → Prop) {fc : Es} {g : Ss} {Q : Out → Prop} (st : ∀ k e, I k e → WE fc e fun r => match r with
    | .ok _ p e1 => wO (pB p) fun b => if b = true then WS g e1 fun o => match o with
      | .nx e2 => ∃ j, j < k ∧ I j e2
      | .ct e2 => ∃ j, j < k ∧ I j e2
      | .bk e2 => Q (.nx e2)
      | .rt t e2 => Q (.rt t e2)
      | .x ex e2 => Q (.x ex e2)
      else Q (.nx e1)
    | .x ex e1 => Q (.x ex e1)) : ∀ {n k : Nat} {env : List T}, I k env → k < n → WS (sWhile n fc g) env Q
  | 0, _, _, _, h => absurd h (Nat.not_lt_zero _)
  | n + 1, k, env, hi, hk => by
    obtain ⟨r, e, h⟩ := st k env hi
    show wO (whileF fc g (n + 1) env) Q
    rw [whileF, e]
    cases r with
    | x ex e1 => exact ⟨_, rfl, h⟩
    | ok q p e1 =>
      obtain ⟨b, eb, h⟩ := h
      simp only [eb]
      cases b with
      | false => exact ⟨_, rfl, h⟩
      | true =>
        obtain ⟨o, eo, h⟩ := h
        simp only [eo]
        cases o with
        | nx e2 =>
          obtain ⟨j, hj, hi⟩ := h
          exact w_while I st hi (by omega)
        | ct e2 =>
          obtain ⟨j, hj, hi⟩ := h
          exact w_while I st hi (by omega)
        | bk e2 => exact ⟨_, rfl, h⟩
        | rt t e2 => exact ⟨_, rfl, h⟩
        | x ex e2 => exact ⟨_, rfl, h⟩
section
variable {P : Program} {w : World} {K : PySem.W.Frag} {mg : Str → Option Value} {base : Heap} {k : Nat} {x : Str} {ps : List Str} {F : Fs}
theorem dep_mkD {f T : Addr} {name qual : Str} {st : Stmt} {oc : Value} {od an : Option Addr} {osl : Array (Option Value)} {kV doc pm cdv ct : Value} {oT : Obj} {its : List Value} {m n : Nat} (l : K.lookup f = some ⟨oc, od, .func (PySem.W.fnOf name qual (defArgs st) (defBody st) (defScope st) (.ref T) kV doc pm an cdv ct), osl⟩)
    (lT : K.lookup T = some oT) (hT : oT.data = .seq its.toArray m) (hi : its.length = n)
    (c : PySem.W.codeIn K cdv qual = true) (kp : PySem.W.keepIn K (.ref f) = true) (hm : mg x = some (.ref f)) (hn : Named K x f)
    (h : ∀ (kV doc pm : Value) (an : Option Addr) (cdv ct : Value) (us its : List Value), us.length = ps.length → its.length = n → ∃ k, bindArgs (PySem.W.fnOf name qual (defArgs st) (defBody st) (defScope st) (.ref T) kV doc pm an cdv ct) ⟨us, []⟩ = seqItems? (.ref T) >>= k ∧ k (some its.toArray) = pure (ps.zip us))
    (G : FnG P w K mg base k f (PySem.W.fnOf name qual (defArgs st) (defBody st) (defScope st) (.ref T) kV doc pm an cdv ct) ps F) : Dep P w K mg base k x ps F := by
  refine ⟨f, _, G, hm, kp, fun s us X hl => ?_, hn⟩
  rw [List.append_nil] at hl ⊢
  obtain ⟨k, e1, e2⟩ := h kV doc pm an cdv ct us its hl hi
  refine BindsTo.of_looks fun M => ?_
  rw [e1]
  exact looks_items X lT hT (.of_pure e2)
end
end VS

set_option Elab.async false
set_option linter.all false
set_option maxRecDepth 100000
/-! Value semantics, 24: plain facts that many laws lean on. -/
namespace VS
open PySem PySem.Spec
theorem sh_int (i : Int) : SeqAt.shaped (.int i) = true := by simp [SeqAt.shaped, PyData.canLay0, PyData.depth]
theorem sh_bl (i : Bool) : SeqAt.shaped (.bool i) = true := by simp [SeqAt.shaped, PyData.canLay0, PyData.depth]
theorem sh_str (i : Str) : SeqAt.shaped (.str i) = PyData.strOk i := by simp [SeqAt.shaped, PyData.canLay0, PyData.depth]
theorem sh_non : SeqAt.shaped .none = true := by simp [SeqAt.shaped, PyData.canLay0, PyData.depth]
theorem eqv_int (i j : Int) : PyData.eqv (.int i) (.int j) = decide (i = j) := by simp [PyData.eqv]; rfl
theorem eqv_bl (i j : Bool) : PyData.eqv (.bool i) (.bool j) = decide (i = j) := by simp [PyData.eqv]; cases i <;> cases j <;> rfl
theorem eqv_str (i j : Str) : PyData.eqv (.str i) (.str j) = (i == j) := by simp [PyData.eqv]
theorem eqv_non : PyData.eqv .none .none = true := by simp [PyData.eqv]
theorem ite_pr {c : Prop} [Decidable c] {A B : Prop} (h : c → A) (k : ¬c → B) : if c then A else B := by
  by_cases q : c
  · rw [if_pos q]; exact h q
  · rw [if_neg q]; exact k q
theorem dq {p : Prop} [Decidable p] (h : p) : decide p = true := decide_eq_true h
theorem canInts : ∀ cs : List Int, PyData.canLayAll0 (cs.map .int) = true
  | [] => by simp [PyData.canLayAll0]
  | c :: cs => by
    show PyData.canLayAll0 (.int c :: cs.map .int) = true
    rw [PyData.canLayAll0, canInts cs]; simp [PyData.canLay0]
theorem sh_ints (cs : List Int) : SeqAt.shaped (.list (cs.map .int)) = true := by
  simp [SeqAt.shaped, PyData.canLay0, canInts, PyData.depth, PySem.W.depth_ints]
theorem sh_nil : SeqAt.shaped (.list []) = true := by simp [SeqAt.shaped, PyData.canLay0, PyData.canLayAll0, PyData.depth, PyData.depthAll]
theorem eqvAll_ints : ∀ a b : List Int, PyData.eqvAll (a.map .int) (b.map .int) = decide (a = b)
  | [], [] => by simp [PyData.eqvAll]
  | [], b :: bs => by simp [PyData.eqvAll]
  | a :: as, [] => by simp [PyData.eqvAll]
  | a :: as, b :: bs => by
    rw [List.map_cons, List.map_cons, PyData.eqvAll, eqvAll_ints as bs, eqv_int]
    by_cases h : a = b <;> by_cases k : as = bs <;> simp [h, k]
theorem eqv_ints (a b : List Int) : PyData.eqv (.list (a.map .int)) (.list (b.map .int)) = decide (a = b) := by
  rw [PyData.eqv, eqvAll_ints]
theorem eqv_nil (cs : List Int) : PyData.eqv (.list (cs.map .int)) (.list []) = decide (cs = []) := eqv_ints cs []
/-! sorted whole numbers -/
def sortI (ns : List Int) : List Int := ns.mergeSort fun a b => decide (a ≤ b)
theorem le_int (a b : Int) : PySem.W.dataLe false id (PyData.int a) (PyData.int b) = decide (a ≤ b) := by
  exact congrFun (congrFun (PySem.W.dataLe_int (β := Int) id) a) b
theorem sortD_ints (ns : List Int) : sortD (ns.map .int) = (sortI ns).map .int := (List.map_mergeSort fun a _ b _ => (le_int a b).symm).symm
theorem sortI_perm (ns : List Int) : (sortI ns).Perm ns := List.mergeSort_perm _ _
theorem sortI_len (ns : List Int) : (sortI ns).length = ns.length := (sortI_perm ns).length_eq
theorem sortI_up (ns : List Int) : (sortI ns).Pairwise (· ≤ ·) := by
  have h := List.pairwise_mergeSort (le := fun a b : Int => decide (a ≤ b)) (fun a b c h k => by simp at h k ⊢; omega) (fun a b => by simp; omega) ns
  exact h.imp fun h => of_decide_eq_true h
theorem sortI_of {ns : List Int} (h : ns.Pairwise (· ≤ ·)) : sortI ns = ns := List.mergeSort_of_pairwise (h.imp fun h => decide_eq_true h)
theorem alike_ints (a b : Int) : PySem.W.alike (.int a) (.int b) = true := by simp [PySem.W.alike]
theorem depthAll_ints : ∀ ns : List Int, PyData.depthAll (ns.map .int) = 0
  | [] => rfl
  | n :: ns => by rw [List.map_cons, PyData.depthAll, depthAll_ints ns]; simp [PyData.depth]
theorem hasDictAll_ints : ∀ ns : List Int, PyData.hasDictAll (ns.map .int) = false
  | [] => rfl
  | n :: ns => by rw [List.map_cons, PyData.hasDictAll, hasDictAll_ints ns]; simp [PyData.hasDict]
theorem sortOk_ints (ns : List Int) : sortOk (ns.map .int) = true := by
  have a : alikeOk (ns.map .int) = true := by
    unfold alikeOk
    rw [List.all_eq_true]
    intro x hx
    rw [List.all_eq_true]
    intro y hy
    obtain ⟨i, _, rfl⟩ := List.mem_map.mp hx
    obtain ⟨j, _, rfl⟩ := List.mem_map.mp hy
    exact alike_ints i j
  have b : (ns.map PyData.int).all isSortA = true := by
    rw [List.all_eq_true]
    intro x hx
    obtain ⟨i, _, rfl⟩ := List.mem_map.mp hx
    rfl
  unfold sortOk
  rw [a, b, hasDictAll_ints, depthAll_ints]
  simp
/-! sizes -/
theorem sz_0 : 0 ≤ sizeLine := by rw [PySem.sizeLine_eq]; omega
theorem sz_1 : 1 ≤ sizeLine := by rw [PySem.sizeLine_eq]; omega
theorem sz_2 : 2 ≤ sizeLine := by rw [PySem.sizeLine_eq]; omega
theorem sz_3 : 3 ≤ sizeLine := by rw [PySem.sizeLine_eq]; omega
theorem sz_4 : 4 ≤ sizeLine := by rw [PySem.sizeLine_eq]; omega
theorem sz_5 : 5 ≤ sizeLine := by rw [PySem.sizeLine_eq]; omega
theorem sz_6 : 6 ≤ sizeLine := by rw [PySem.sizeLine_eq]; omega
theorem sz_7 : 7 ≤ sizeLine := by rw [PySem.sizeLine_eq]; omega
theorem sz_8 : 8 ≤ sizeLine := by rw [PySem.sizeLine_eq]; omega
theorem sz_9 : 9 ≤ sizeLine := by rw [PySem.sizeLine_eq]; omega
theorem sz_10 : 10 ≤ sizeLine := by rw [PySem.sizeLine_eq]; omega
theorem sz_11 : 11 ≤ sizeLine := by rw [PySem.sizeLine_eq]; omega
theorem sz_12 : 12 ≤ sizeLine := by rw [PySem.sizeLine_eq]; omega
theorem sz_13 : 13 ≤ sizeLine := by rw [PySem.sizeLine_eq]; omega
theorem sz_14 : 14 ≤ sizeLine := by rw [PySem.sizeLine_eq]; omega
theorem sz_15 : 15 ≤ sizeLine := by rw [PySem.sizeLine_eq]; omega
theorem sz_16 : 16 ≤ sizeLine := by rw [PySem.sizeLine_eq]; omega
theorem sz_17 : 17 ≤ sizeLine := by rw [PySem.sizeLine_eq]; omega
theorem sz_18 : 18 ≤ sizeLine := by rw [PySem.sizeLine_eq]; omega
theorem sz_19 : 19 ≤ sizeLine := by rw [PySem.sizeLine_eq]; omega
theorem sz_20 : 20 ≤ sizeLine := by rw [PySem.sizeLine_eq]; omega
theorem sz_21 : 21 ≤ sizeLine := by rw [PySem.sizeLine_eq]; omega
theorem sz_22 : 22 ≤ sizeLine := by rw [PySem.sizeLine_eq]; omega
theorem sz_23 : 23 ≤ sizeLine := by rw [PySem.sizeLine_eq]; omega
theorem sz_24 : 24 ≤ sizeLine := by rw [PySem.sizeLine_eq]; omega
theorem sz_25 : 25 ≤ sizeLine := by rw [PySem.sizeLine_eq]; omega
theorem sz_26 : 26 ≤ sizeLine := by rw [PySem.sizeLine_eq]; omega
theorem sz_27 : 27 ≤ sizeLine := by rw [PySem.sizeLine_eq]; omega
theorem sz_28 : 28 ≤ sizeLine := by rw [PySem.sizeLine_eq]; omega
theorem sz_29 : 29 ≤ sizeLine := by rw [PySem.sizeLine_eq]; omega
theorem sz_30 : 30 ≤ sizeLine := by rw [PySem.sizeLine_eq]; omega
theorem sz_31 : 31 ≤ sizeLine := by rw [PySem.sizeLine_eq]; omega
theorem sz_32 : 32 ≤ sizeLine := by rw [PySem.sizeLine_eq]; omega
theorem sz_33 : 33 ≤ sizeLine := by rw [PySem.sizeLine_eq]; omega
theorem sz_34 : 34 ≤ sizeLine := by rw [PySem.sizeLine_eq]; omega
theorem sz_35 : 35 ≤ sizeLine := by rw [PySem.sizeLine_eq]; omega
theorem sz_36 : 36 ≤ sizeLine := by rw [PySem.sizeLine_eq]; omega
theorem sz_37 : 37 ≤ sizeLine := by rw [PySem.sizeLine_eq]; omega
theorem sz_38 : 38 ≤ sizeLine := by rw [PySem.sizeLine_eq]; omega
theorem sz_39 : 39 ≤ sizeLine := by rw [PySem.sizeLine_eq]; omega
theorem sz_40 : 40 ≤ sizeLine := by rw [PySem.sizeLine_eq]; omega
theorem log_lt {n k : Nat} (h : n < 2 ^ k) : n.log2 ≤ k := by
  by_cases z : n = 0
  · subst z; simp
  · exact Nat.le_of_lt ((Nat.log2_lt z).mpr h)
theorem mul_ok {i j : Int} (h1 : i.natAbs < 2 ^ 250) (h2 : j.natAbs < 2 ^ 250) : cMul i j = true := by
  have := log_lt h1
  have := log_lt h2
  exact dq (by omega)
theorem div_ok {i j : Int} (h0 : 0 < j) (h : j.natAbs < 2 ^ 250) : cDiv i j = true := by
  have := log_lt h
  unfold cDiv
  rw [dq h0, dq (show j.natAbs.log2 < 9000 by omega)]
  rfl
theorem mod_ok {i j : Int} (h0 : 0 < j) : cMod i j = true := dq h0
theorem small {i : Int} {n : Nat} (h1 : -(n : Int) ≤ i) (h2 : i ≤ n) (hn : n < 2 ^ 250) : i.natAbs < 2 ^ 250 := by omega
theorem at_mem {α : Type} {xs : List α} {v : Int} (h0 : 0 ≤ v) (h1 : v < (xs.length : Int)) : ∃ x, L2.atI xs v = some x ∧ x ∈ xs := by
  have hj : v.toNat < xs.length := by omega
  refine ⟨xs[v.toNat], ?_, List.getElem_mem hj⟩
  unfold L2.atI L2.ixN
  simp [h0, h1, hj]
theorem at_nat {α : Type} {xs : List α} {v : Int} (h0 : 0 ≤ v) (h1 : v < (xs.length : Int)) : L2.atI xs v = xs[v.toNat]? := by
  have hj : v.toNat < xs.length := by omega
  unfold L2.atI L2.ixN
  simp [h0, h1, hj]
theorem at2_0 {α : Type} {x y : α} : L2.atI [x, y] 0 = some x := rfl
theorem at2_1 {α : Type} {x y : α} : L2.atI [x, y] 1 = some y := rfl
theorem at3_0 {α : Type} {x y z : α} : L2.atI [x, y, z] 0 = some x := rfl
theorem at3_1 {α : Type} {x y z : α} : L2.atI [x, y, z] 1 = some y := rfl
theorem at3_2 {α : Type} {x y z : α} : L2.atI [x, y, z] 2 = some z := rfl
theorem ix3_1 : L2.ixN 3 1 = some 1 := rfl
theorem ix3_2 : L2.ixN 3 2 = some 2 := rfl
theorem set3_1 {α : Type} {x y z w : α} : [x, y, z].set 1 w = [x, w, z] := rfl
theorem set3_2 {α : Type} {x y z w : α} : [x, y, z].set 2 w = [x, y, w] := rfl
theorem nd_one (i : Nat) : decide [i].Nodup = true := by simp
theorem pick2 {x y v : Int} (h0 : 0 ≤ v) (h1 : v < 2) : ∃ r, L2.atI [T.dat (.int x), .dat (.int y)] v = some (.dat (.int r)) ∧ (r = x ∨ r = y) := by
  have : v = 0 ∨ v = 1 := by omega
  rcases this with rfl | rfl
  · exact ⟨x, rfl, .inl rfl⟩
  · exact ⟨y, rfl, .inr rfl⟩
theorem pick3 {x y z v : Int} (h0 : 0 ≤ v) (h1 : v < 3) : ∃ r, L2.atI [T.dat (.int x), .dat (.int y), .dat (.int z)] v = some (.dat (.int r)) ∧ (r = x ∨ r = y ∨ r = z) := by
  have : v = 0 ∨ v = 1 ∨ v = 2 := by omega
  rcases this with rfl | rfl | rfl
  · exact ⟨x, rfl, .inl rfl⟩
  · exact ⟨y, rfl, .inr (.inl rfl)⟩
  · exact ⟨z, rfl, .inr (.inr rfl)⟩
theorem pick4 {x y z w v : Int} (h0 : 0 ≤ v) (h1 : v < 4) : ∃ r, L2.atI [T.dat (.int x), .dat (.int y), .dat (.int z), .dat (.int w)] v = some (.dat (.int r)) ∧ (r = x ∨ r = y ∨ r = z ∨ r = w) := by
  have : v = 0 ∨ v = 1 ∨ v = 2 ∨ v = 3 := by omega
  rcases this with rfl | rfl | rfl | rfl
  · exact ⟨x, rfl, .inl rfl⟩
  · exact ⟨y, rfl, .inr (.inl rfl)⟩
  · exact ⟨z, rfl, .inr (.inr (.inl rfl))⟩
  · exact ⟨w, rfl, .inr (.inr (.inr rfl))⟩
def feedT (cs : List Int) (a b : Int) : T := .lst [.dat (.list (cs.map .int)), .dat (.int a), .dat (.int b)]
/-- a comprehension that draws nothing: the test and the element by the item -/
theorem wc_pure {gt : Gs} {fc fe : Es} {own : List Nat} {env : List T} (b : D → Bool) (t : D → T) (hw : wipeE env own = env) : ∀ {ds : List D} {acc : List T} {q : Bool} {Q : Er → Prop},
    (∀ d ∈ ds, ∃ e1, gt (.dat d) env = some e1 ∧ wipeE e1 own = env ∧ WE fc e1 (fun r => ∃ p, r = .ok true p e1 ∧ pB p = some (b d)) ∧ (b d = true → WE fe e1 fun r => ∃ p, r = .ok true p e1 ∧ keep p = some (t d))) →
    Q (.ok q (.fr (.lst (acc ++ (ds.filter b).map t))) env) → WC gt fc fe own ds acc q env Q
  | [], acc, q, Q, _, k => by rw [w_cnil]; simpa using k
  | d :: ds, acc, q, Q, h, k => by
    obtain ⟨e1, h1, h2, ⟨r, er, p, rfl, hp⟩, h4⟩ := h d List.mem_cons_self
    rw [w_ccons]
    refine wO_of h1 (wO_of er ?_)
    show wO (pB p) _
    refine wO_of hp ?_
    have h' := fun d' hd => h d' (List.mem_cons_of_mem _ hd)
    cases hb : b d with
    | false =>
      simp only [Bool.false_eq_true, if_false, h2, Bool.and_true]
      refine wc_pure b t hw h' ?_
      rw [List.filter_cons_of_neg (by rw [hb]; decide)] at k
      exact k
    | true =>
      obtain ⟨r2, er2, p2, rfl, hp2⟩ := h4 hb
      simp only [if_true]
      refine wO_of er2 ?_
      show wO (keep p2) _
      refine wO_of hp2 ?_
      simp only [h2, Bool.and_true]
      refine wc_pure b t hw h' ?_
      rw [List.filter_cons_of_pos hb, List.map_cons] at k
      rw [List.append_assoc]
      exact k
theorem filter_int (b : D → Bool) (ns : List Int) : (ns.map PyData.int).filter b = (ns.filter fun n => b (.int n)).map .int := by
  rw [List.filter_map]; rfl
theorem toDs_ints (ns : List Int) : toDs (ns.map fun n => T.dat (.int n)) = some (ns.map .int) := by
  have h := toDs_map (ns.map PyData.int)
  rw [List.map_map] at h
  exact h
theorem allDat_ints (ns : List Int) : allDat (ns.map fun n => T.dat (.int n)) = some (ns.map .int) := by
  have h := allDat_map (ns.map PyData.int)
  rw [List.map_map] at h
  exact h
theorem cutL_map {α β : Type} (f : α → β) (xs : List α) (lo hi : Option Int) : cutL (xs.map f) lo hi = (cutL xs lo hi).map f := by
  unfold cutL
  rw [List.length_map, List.map_take, List.map_drop]
theorem cutL_to {α : Type} (xs : List α) {k : Int} (h : 0 ≤ k) : cutL xs none (some k) = xs.take k.toNat := by
  unfold cutL
  have e : HT.sIx xs.length xs.length (some k) = min k.toNat xs.length := by
    show (if k < 0 then _ else _) = _
    rw [if_neg (by omega)]
  rw [e, HT.sIx_none, List.drop_zero, Nat.sub_zero]
  rcases Nat.le_total k.toNat xs.length with z | z
  · rw [Nat.min_eq_left z]
  · rw [Nat.min_eq_right z, List.take_length, List.take_of_length_le z]
/-- an invariant of a comprehension -/
theorem wc_inv {gt : Gs} {fc fe : Es} {own : List Nat} {Q : Er → Prop} (I : List D → List T → Bool → List T → Prop)
    (st : ∀ d r acc q e, I (d :: r) acc q e → wO (gt (.dat d) e) fun e1 => WE fc e1 fun r1 => match r1 with
      | .ok q1 p1 e2 => wO (pB p1) fun k => if k = true then WE fe e2 fun r2 => match r2 with
          | .ok q2 p2 e3 => wO (keep p2) fun t => I r (acc ++ [t]) (q && q1 && q2) (wipeE e3 own)
          | .x _ _ => False
        else I r acc (q && q1) (wipeE e2 own)
      | .x _ _ => False) (k : ∀ acc q e, I [] acc q e → Q (.ok q (.fr (.lst acc)) e)) : ∀ {ds : List D} {acc : List T} {q : Bool} {env : List T}, I ds acc q env → WC gt fc fe own ds acc q env Q
  | [], acc, q, env, h => by rw [w_cnil]; exact k _ _ _ h
  | d :: r, acc, q, env, h => by
    rw [w_ccons]
    refine wO_mono (st d r acc q env h) fun e1 h1 => wO_mono h1 fun r1 h2 => ?_
    cases r1 with
    | x _ _ => exact h2
    | ok q1 p1 e2 =>
      refine wO_mono h2 fun b h3 => ?_
      cases b with
      | false => exact wc_inv I st k h3
      | true =>
        refine wO_mono h3 fun r2 h4 => ?_
        cases r2 with
        | x _ _ => exact h4
        | ok q2 p2 e3 => exact wO_mono h4 fun t h5 => wc_inv I st k h5
theorem rng_cast {n : Nat} : ∀ {i : Int} {d : D}, d ∈ rngD i n → ∃ j : Int, d = .int j ∧ i ≤ j ∧ j < i + n := by
  intro i d h
  unfold rngD at h
  obtain ⟨j, hj, rfl⟩ := List.mem_map.mp h
  have := List.mem_range.mp hj
  exact ⟨_, rfl, by omega, by omega⟩
theorem rng_len {i : Int} {n : Nat} : (rngD i n).length = n := by unfold rngD; rw [List.length_map, List.length_range]
/-- a comprehension that draws nothing, over what stands for xs -/
theorem wc_enc {α : Type} (enc : α → D) {gt : Gs} {fc fe : Es} {own : List Nat} {env : List T} (b : α → Bool) (t : α → T) (hw : wipeE env own = env) : ∀ {xs : List α} {acc : List T} {q : Bool} {Q : Er → Prop},
    (∀ x ∈ xs, ∃ e1, gt (.dat (enc x)) env = some e1 ∧ wipeE e1 own = env ∧ WE fc e1 (fun r => ∃ p, r = .ok true p e1 ∧ pB p = some (b x)) ∧ (b x = true → WE fe e1 fun r => ∃ p, r = .ok true p e1 ∧ keep p = some (t x))) →
    Q (.ok q (.fr (.lst (acc ++ (xs.filter b).map t))) env) → WC gt fc fe own (xs.map enc) acc q env Q
  | [], acc, q, Q, _, k => by rw [List.map_nil, w_cnil]; simpa using k
  | d :: ds, acc, q, Q, h, k => by
    obtain ⟨e1, h1, h2, ⟨r, er, p, rfl, hp⟩, h4⟩ := h d List.mem_cons_self
    rw [List.map_cons, w_ccons]
    refine wO_of h1 (wO_of er ?_)
    show wO (pB p) _
    refine wO_of hp ?_
    have h' := fun d' hd => h d' (List.mem_cons_of_mem _ hd)
    cases hb : b d with
    | false =>
      simp only [Bool.false_eq_true, if_false, h2, Bool.and_true]
      refine wc_enc enc b t hw h' ?_
      rw [List.filter_cons_of_neg (by rw [hb]; decide)] at k
      exact k
    | true =>
      obtain ⟨r2, er2, p2, rfl, hp2⟩ := h4 hb
      simp only [if_true]
      refine wO_of er2 ?_
      show wO (keep p2) _
      refine wO_of hp2 ?_
      simp only [h2, Bool.and_true]
      refine wc_enc enc b t hw h' ?_
      rw [List.filter_cons_of_pos hb, List.map_cons] at k
      rw [List.append_assoc]
      exact k
theorem allDat_of {α : Type} (f : α → D) : ∀ xs : List α, allDat (xs.map fun x => T.dat (f x)) = some (xs.map f)
  | [] => rfl
  | x :: xs => by
    show (allDat (xs.map fun x => T.dat (f x))).map (f x :: ·) = _
    rw [allDat_of f xs]; rfl
theorem toDs_of {α : Type} (f : α → D) (xs : List α) : toDs (xs.map fun x => T.dat (f x)) = some (xs.map f) := by
  have h := toDs_map (xs.map f)
  rw [List.map_map] at h
  exact h
theorem allI_of {α : Type} (f : α → Int) : ∀ xs : List α, allI (xs.map fun x => PyData.int (f x)) = some (xs.map f)
  | [] => rfl
  | x :: xs => by
    show (allI (xs.map fun x => PyData.int (f x))).map (f x :: ·) = _
    rw [allI_of f xs]; rfl
theorem allB_of {α : Type} (f : α → Bool) : ∀ xs : List α, allB (xs.map fun x => PyData.bool (f x)) = some (xs.map f)
  | [] => rfl
  | x :: xs => by
    show (allB (xs.map fun x => PyData.bool (f x))).map (f x :: ·) = _
    rw [allB_of f xs]; rfl
/-- a comprehension over whole numbers, of whole numbers -/
theorem wc_ints {gt : Gs} {fc fe : Es} {own : List Nat} {env : List T} (b : Int → Bool) (f : Int → Int) (hw : wipeE env own = env) {ns : List Int} {acc : List T} {q : Bool} {Q : Er → Prop}
    (h : ∀ n ∈ ns, ∃ e1, gt (.dat (.int n)) env = some e1 ∧ wipeE e1 own = env ∧ WE fc e1 (fun r => ∃ p, r = .ok true p e1 ∧ pB p = some (b n)) ∧ (b n = true → WE fe e1 fun r => ∃ p, r = .ok true p e1 ∧ keep p = some (.dat (.int (f n)))))
    (k : Q (.ok q (.fr (.lst (acc ++ ((ns.filter b).map f).map fun n => .dat (.int n)))) env)) : WC gt fc fe own (ns.map .int) acc q env Q := by
  refine wc_pure (fun d => match d with | .int n => b n | _ => false) (fun d => match d with | .int n => .dat (.int (f n)) | _ => .un) hw ?_ ?_
  · intro d hd
    obtain ⟨n, hn, rfl⟩ := List.mem_map.mp hd
    exact h n hn
  · rw [List.filter_map, List.map_map]
    rw [List.map_map] at k
    exact k
theorem filter_tt {α : Type} (l : List α) : l.filter (fun _ => true) = l := List.filter_eq_self.mpr fun _ _ => rfl
/-! a join behind an if -/
def kI (I : List T → Prop) (Q : Out → Prop) : Out → Prop
  | .nx e => I e
  | .rt t e => Q (.rt t e)
  | .bk e => Q (.bk e)
  | .ct e => Q (.ct e)
  | .x ex e => Q (.x ex e)
theorem w_join {g rest : Ss} {env : List T} {Q : Out → Prop} (I : List T → Prop) (h : WS g env (kI I Q)) (k : ∀ e, I e → WS rest e Q) : WS g env (kSeq rest Q) := by
  refine wO_mono h fun o h => ?_
  cases o with
  | nx e => exact k e h
  | _ => exact h
end VS

set_option Elab.async false
set_option linter.all false
set_option maxRecDepth 100000
/-! Value semantics, 25: exceptions that are caught and kept. -/
namespace VS
open PySem PySem.Spec PyProof.Rows L2

section
variable {X : Cx} {pins : List (Addr × Obj)} {σ : L2.St} {H : Hp} {s : Shared} {a : Addr} {oe : Obj} {vs : Array Value}
/-- an exception's object comes among what is tracked -/
theorem inv_exc (I : Inv X pins σ H s) (ha : s.heap.get? a = some oe) (hd : oe.data = .fields vs) (na : H a = none) (nL : a ≠ X.env.locals) (np : ∀ p ∈ X.pn ++ pins, p.1 ≠ a) (n0 : X.s_0.heap.get? a = none) :
    Inv X pins σ (upd H a (.ext (excIs a oe.cls oe.dict))) s := by
  have up : ∀ {b : Addr} {o : HO}, H b = some o → upd H a (.ext (excIs a oe.cls oe.dict)) b = some o := fun {b o} e => by
    rw [upd_ne (ne_of_none e na)]; exact e
  refine ⟨I.ok, I.os, I.bare, ⟨I.base.keep, I.base.slot, fun b o e n hx => ?_, I.base.there, fun b xs e => up (I.base.tups b xs e), fun b o u e => up (I.base.frzs b o u e), fun b ps e => ?_⟩, I.loc, I.cell, ?_, fun y c e => ?_, fun p hp => ?_, fun b o e => ?_, I.len⟩
  · have ne : b ≠ a := fun z => by rw [z, n0] at e; cases e
    rw [upd_ne ne]; exact I.base.free b o e n hx
  · obtain ⟨more, q⟩ := I.base.tbls b ps e
    exact ⟨more, up q⟩
  · rw [upd_ne (Ne.symm nL)]; exact I.free
  · have ne : c ≠ a := fun z => by
      obtain ⟨v, oc, q1, q2⟩ := I.cell y c e
      rw [z, ha] at q1; cases q1
      rw [hd] at q2; cases q2
    rw [upd_ne ne]; exact I.freeC y c e
  · obtain ⟨q1, q2, q3⟩ := I.pin p hp
    exact ⟨q1, by rw [upd_ne (np p hp)]; exact q2, q3⟩
  · by_cases z : b = a
    · subst z
      rw [upd_same] at e
      cases e
      exact ⟨⟨oe, vs, ha, rfl, rfl, hd⟩, ⟨oe, ha⟩, fun h1 h2 ⟨o1, w1, q1, q2, q3, q4⟩ k => ⟨o1, w1, k _ q1, q2, q3, q4⟩⟩
    · rw [upd_ne z] at e
      exact (I.hok b o e).stay (fun _ _ _ q => q) (fun _ q => up q) fun _ _ q => up q
end
/-- the ends of an except suite: the name goes, the exception's object stays among what is tracked -/
def exEnds (a : Addr) (c : Value) (d : Option Addr) (i : Nat) (D : Ends) : Ends := { nx := fun σ' H' => D.nx (σ'.set i none) (upd H' a (.ext (excIs a c d))), rt := fun v H' => D.rt v (upd H' a (.ext (excIs a c d))), bk := fun σ' H' => D.bk (σ'.set i none) (upd H' a (.ext (excIs a c d))), ct := fun σ' H' => D.ct (σ'.set i none) (upd H' a (.ext (excIs a c d))) }
/-- what 'except x as n' wishes -/
def wExc (K : PySem.W.Frag) (c : Value) (i : Nat) (ts : Addr → Value → Option Addr → TS) (Wout : WX) (D : Ends) : WX := fun cls d σ H =>
  ∃ b, PySem.W.exmOne K cls c = some b ∧ (b = true → ∀ a, H a = none → ts a cls d (exEnds a cls d i D) (σ.set i (some (.ref a))) H) ∧ (b = false → Wout cls d σ H)
section
variable {X : Cx} {x n : Str} {c : Value} {i : Nat} {body suite : List Stmt} {b₀ : Stmt} {np pos pos' : Pos} {tb : WX → TS} {ts : Addr → Value → Option Addr → TS} {Wout : WX}
theorem ps_try_ex (hst : X.stack = X.env :: X.outer) (hfm : X.env.frame = some X.env.locals) (hex : X.ex = []) (hN : X.N.Nodup) (hi : X.N[i]? = some n) (hln : X.env.kindOf n = some .local) (hcl : Names X x c) (tkO : Takes X Wout)
    (hbd : ∀ (W : WX) (pn : List (Addr × Obj)) (xe : Value → Shared → Prop), Takes (X.tr pn xe) W → PassesOwn (model X.prog X.w) X.A X.env xe → PSs (X.tr pn xe) body (tb W))
    (hsu : ∀ (a : Addr) (oe : Obj) (cls : Value) (d : Option Addr) (pn : List (Addr × Obj)), Zc cls d oe → (∃ vs, oe.data = .fields vs) → PSs (X.suite a ((a, oe) :: pn)) (b₀ :: suite) (ts a cls d)) :
    PS X (.Try body [.ExceptHandler (some (.Name x np)) (some n) (b₀ :: suite) pos'] [] [] pos) (fun D σ H => tb (wExc X.K c i ts Wout D) D σ H) := by
  refine ⟨fun pins s0 σ0 H0 D I0 want => ?_⟩
  have okX := I0.ok
  have hfrs : X.A.frames = some (X.env :: X.outer) := by rw [okX.frames, hst]
  refine wpAny_Try_except ?_
  refine wpAny_mono ((hbd (wExc X.K c i ts Wout D) (X.pn ++ pins) (fun e t₁ => wpAny (model X.prog X.w) X.A (noteFrame e X.env) (fun _ t₂ => wpAny (model X.prog X.w) X.A (setFlight e none) (fun _ t₃ =>
    wpAny (model X.prog X.w) X.A (handleBy e X.env [.ExceptHandler (some (.Name x np)) (some n) (b₀ :: suite) pos']) (SP X pins D) X.xe t₃) X.xe t₂) X.xe t₁) (fun u t' caught => ?_) PassesOwn.looking).run [] s0 σ0 H0 D (I0.toTry _) want) (fun fl t1 ends => ?_) (fun e t1 he => he)
  · obtain ⟨a, G, sJ, pinsJ, σJ, HJ, cls, d, rfl, JJ, nbJ, upJ, skyJ, naJ, osJ, agJ, b, hb1, hyes, hno⟩ := caught
    have J : Inv X pins σJ HJ sJ := JJ.ofTry okX
    have skyJ' : Sky G (X.env :: X.outer) a (Zc cls d) X.env.locals t'.heap := by rw [← hst]; exact skyJ
    show wpAny (model X.prog X.w) X.A (noteFrame (.ref a) X.env) _ _ _
    refine Sky.land Zc.steady hfrs hfm skyJ' fun h3 fl3 up3 => ?_
    have J3 : Inv X pins σJ HJ { t' with heap := h3 } := J.landed nbJ fl3.1 (upJ.trans up3) osJ agJ
    obtain ⟨oe3, vs3, he3, hz3, hd3⟩ := fl3.there
    have noFrame : ∀ {h : Heap} {o : Obj} {vs : Array Value}, h.FunFrames G (X.env :: X.outer) → h.get? a = some o → o.data = .fields vs → a ∉ frs (X.env :: X.outer) := fun {h o vs} ff e dd hm => by
      obtain ⟨_, o', e', hnf⟩ := ff.mem hm
      rw [e] at e'; cases e'
      exact hnf _ dd
    have nfr := noFrame fl3.2.2.1 he3 hd3
    have nL : a ≠ X.env.locals := fun z => nfr (List.mem_filterMap.mpr ⟨X.env, List.mem_cons_self, by rw [hfm, z]⟩)
    have nF : a ∉ X.fs := fun hm => by
      obtain ⟨e, he, q⟩ := List.mem_filterMap.mp hm
      exact nfr (List.mem_filterMap.mpr ⟨e, List.mem_cons_of_mem _ he, q⟩)
    -- the exception is new
    have fresh : sJ.heap.get? a = none := by
      cases q : sJ.heap.get? a with
      | none => rfl
      | some o =>
        have z := nbJ a o q (by rw [hst]; exact nfr)
        rw [fl3.2.1] at z; cases z
    have fresh0 : X.s_0.heap.get? a = none := by
      cases q : X.s_0.heap.get? a with
      | none => rfl
      | some o =>
        obtain ⟨o', z⟩ := J.base.there a o q (by rw [hex]; exact fun z => nomatch z)
        rw [fresh] at z; cases z
    have offPins : ∀ p ∈ X.pn ++ pins, p.1 ≠ a := fun p hp z => by
      have q := (J.pin p hp).1
      rw [z, fresh] at q; cases q
    have S3 := J3.suite he3 hd3 naJ nL nF
    refine wpAny_handleBy_cons (codeAny_handlers_test ?_) (by intro q; cases q)
    have LT : PySem.W.Looks (model X.prog X.w) h3 (typeOf (.ref a)) cls := fun A Q E s k q => wpAny_typeOf_ref (k _ _ he3) (by rw [hz3.1]; exact q)
    have LM := PySem.W.exm_one (M := model X.prog X.w) (J3.kIn) LT hb1
    have named : ∀ {Q : Value → Shared → Prop} {E : Value → Shared → Prop}, Q c { t' with heap := h3 } → wpAny (model X.prog X.w) (X.A.mark (some (.ref a))) (eval (.Name x np) X.env) Q E { t' with heap := h3 } := fun {Q E} q => by
      obtain ⟨hg, hdbg, hm | ⟨hm, hv, hnn⟩⟩ := hcl
      · exact ld_glob (X := X.suite a ((a, oe3) :: (X.pn ++ pins))) S3 hg hm q hdbg
      · exact ld_blt (X := X.suite a ((a, oe3) :: (X.pn ++ pins))) S3 hg hm hv q hnn hdbg
    refine named (LM.here ?_)
    cases b with
    | true =>
      refine codeAny_handlers_suite_as ?_
      refine HandSPX.lands_againZ fl3 fun h4 fl4 up4 => ?_
      have J4 : Inv X pins σJ HJ { t' with heap := h4 } := J.landed nbJ fl4.1 ((upJ.trans up3).trans up4) osJ agJ
      obtain ⟨oe4, vs4, he4, hz4, hd4⟩ := fl4.there
      have S4 := J4.suite he4 hd4 naJ nL nF
      refine store_ok (X := X.suite a ((a, oe4) :: (X.pn ++ pins))) (v := .ref a) S4 hN hi (.inl hln) rfl (fun s5 S5 => ?_) (.inr hln)
      refine wpAny_mono ((hsu a oe4 cls d (X.pn ++ pins) hz4 ⟨_, hd4⟩).run [] s5 _ HJ _ S5 (hyes rfl a naJ)) (fun f s6 hsp => ?_) (fun _ _ z => False.elim z)
      have end_ : ∀ {σ6 : L2.St} {H6 : Hp} {Q : Shared → Prop}, Inv (X.suite a ((a, oe4) :: (X.pn ++ pins))) [] σ6 H6 s6 → (∀ s7, Inv X pins (σ6.set i none) (upd H6 a (.ext (excIs a cls d))) s7 → Q s7) →
          wpAny (model X.prog X.w) X.A (do bindName X.env n .none; unbindBehindTheSuite X.env n pos') (fun _ s7 => Q s7) X.xe s6 := fun {σ6 H6 Q} S6 hq => by
        have pin6 := S6.pin (a, oe4) (List.mem_append_left _ List.mem_cons_self)
        have I6 : Inv X ((a, oe4) :: pins) σ6 H6 s6 := ⟨okX, S6.os, S6.bare, S6.base, S6.loc, S6.cell, S6.free, S6.freeC, fun p hp => S6.pin p (by
          rw [List.append_nil]
          rcases List.mem_append.mp hp with hp | hp
          · exact List.mem_cons_of_mem _ (List.mem_append_left _ hp)
          · rcases List.mem_cons.mp hp with rfl | hp
            · exact List.mem_cons_self
            · exact List.mem_cons_of_mem _ (List.mem_append_right _ hp)), S6.hok, S6.len⟩
        refine gone_ok I6 hN hi hln fun s7 J7 => hq s7 ?_
        have pin7 := J7.pin (a, oe4) (List.mem_append_right _ List.mem_cons_self)
        have I7 : Inv X pins (σ6.set i none) H6 s7 := ⟨J7.ok, J7.os, J7.bare, J7.base, J7.loc, J7.cell, J7.free, J7.freeC, fun p hp => J7.pin p (by
          rcases List.mem_append.mp hp with hp | hp
          · exact List.mem_append_left _ hp
          · exact List.mem_append_right _ (List.mem_cons_of_mem _ hp)), J7.hok, J7.len⟩
        have z := inv_exc I7 pin7.1 hd4 pin7.2.1 nL offPins fresh0
        rw [hz4.1, hz4.2] at z
        exact z
      cases f with
      | next =>
        obtain ⟨σ6, H6, S6, q6⟩ := hsp
        exact end_ S6 fun s7 J7 => ⟨_, _, J7, q6⟩
      | brk =>
        obtain ⟨σ6, H6, S6, q6⟩ := hsp
        exact end_ S6 fun s7 J7 => ⟨_, _, J7, q6⟩
      | cont =>
        obtain ⟨σ6, H6, S6, q6⟩ := hsp
        exact end_ S6 fun s7 J7 => ⟨_, _, J7, q6⟩
      | ret u =>
        obtain ⟨v6, σ6, H6, S6, r6, q6⟩ := hsp
        exact end_ S6 fun s7 J7 => ⟨_, _, _, J7, r6, q6⟩
    | false =>
      show wpAny _ X.A (handleBy (.ref a) X.env []) _ _ _
      refine wpAny_handleBy_nil ?_
      obtain ⟨k1, k2, k3, oe, vs, Tr, oT, ts', he, hz, hd, h1, hr⟩ := id fl3
      unfold PySem.passOn
      refine wpAny_bind (wpAny_field he hd h1 ?_)
      rw [if_neg (show ¬ ((Value.ref Tr == Value.none) = true) from by simp)]
      have fin : wpAny (model X.prog X.w) X.A (setFlight (.ref a) X.env.frame) (fun _ s4 => wpAny (model X.prog X.w) X.A (throw (.ref a) : Sem Flow) (SP X pins D) X.xe s4) X.xe { t' with heap := h3 } := by
        rw [hfm]
        refine HandSPX.setFlight_upZ fl3 fun h4 hh4 up4 => wpAny_throw (tkO _ _ ?_)
        exact ⟨a, G, sJ, pins, σJ, HJ, cls, d, rfl, J, nbJ, (upJ.trans up3).trans up4, .inr (.inr (by rw [hst]; exact hh4)), naJ, osJ, agJ, hno rfl⟩
      first
        | exact wpAny_bind (wpAny_pure (wpAny_bind fin))
        | exact wpAny_bind fin
  · cases fl with
    | next =>
      obtain ⟨σ', H', J', q⟩ := ends
      exact wpAny_execs_nil ⟨σ', H', J'.ofTry okX, q⟩
    | brk =>
      obtain ⟨σ', H', J', q⟩ := ends
      exact ⟨σ', H', J'.ofTry okX, q⟩
    | cont =>
      obtain ⟨σ', H', J', q⟩ := ends
      exact ⟨σ', H', J'.ofTry okX, q⟩
    | ret u =>
      obtain ⟨v, σ', H', J', r, q⟩ := ends
      exact ⟨v, σ', H', J'.ofTry okX, r, q⟩
end
end VS

set_option Elab.async false
set_option linter.all false
set_option maxRecDepth 100000
/-! Value semantics, 26: try .. except X as e: caught = e; raise. -/
namespace VS
open PySem PySem.Spec PyProof.Rows L2

def exName : Ex → Str
  | .own C => C
  | .fld C _ _ => C
/-- try: g; except X as slot i: slot j = slot i; ns: the classes below X -/
def sTry (ns : List Str) (g : Ss) (j i : Nat) : Ss := fun env => match g env with
  | some (.x ex e) => if (decide (exName ex ∈ ns) && decide (j < e.length) && decide (i < e.length)) = true then some (.nx ((e.set j (.exc ex)).set i .un)) else none
  | r => r
section
variable {K : PySem.W.Frag} {R P H : Hp}
theorem RepSl.clear {x : Option V} : ∀ {es : List T} {σ : L2.St} {S : ASet} {i : Nat}, RepSl K R P H es σ S → ∃ S', RepSl K R P H (es.set i .un) (σ.set i x) S' ∧ ∀ a, S' a → S a
  | _, _, _, _, .nil => ⟨_, .nil, fun _ h => h⟩
  | _, _, _, 0, .no b => ⟨_, .no b, fun _ h => h⟩
  | _, _, _, 0, .so _ b _ => ⟨_, .no b, fun _ h => .inr h⟩
  | _, _, _, i + 1, .no b => by
    obtain ⟨S', r, s⟩ := RepSl.clear (x := x) (i := i) b
    exact ⟨S', .no r, s⟩
  | _, _, _, i + 1, .so a b n => by
    obtain ⟨S', r, s⟩ := RepSl.clear (x := x) (i := i) b
    exact ⟨_, .so a r fun y h k => n y h (s y k), fun y h => h.imp id (s y)⟩
theorem ExR.named {c : Value} {d : Option Addr} : ∀ {ex : Ex}, ExR K R H ex c d → ∃ C, Named K (exName ex) C ∧ c = .ref C
  | .own _, h => h.1
  | .fld _ _ _, h => h.1
end
section
variable {K : PySem.W.Frag} {W : WX} {B : List Nat} {g : Ss} {i j : Nat} {ns : List Str} {cW : Value} {D : Ends} {σ : L2.St} {H : Hp}
theorem sTry_imp (hns : ∀ n ∈ ns, ∀ C, Named K n C → PySem.W.exmOne K (.ref C) cW = some true) (hij : i ≠ j) (hj : j ∉ B) (hi : i ∉ B) (h : rdS K W B (sTry ns g j i) D σ H) :
    rdS K (wExc K cW i (fun _ _ _ => tAsg (tVar i) (gName j)) W D) B g D σ H := by
  obtain ⟨env, R, P, S, o, sr, ho, post⟩ := h
  unfold sTry at ho
  cases hg : g env with
  | none => rw [hg] at ho; cases ho
  | some o1 =>
    rw [hg] at ho
    refine ⟨env, R, P, S, o1, sr, hg, ?_⟩
    cases o1 with
    | nx e => cases ho; exact post
    | rt t e => cases ho; exact post
    | bk e => cases ho; exact post
    | ct e => cases ho; exact post
    | x ex e =>
      simp only at ho
      split at ho
      · rename_i hc
        cases ho
        simp only [Bool.and_eq_true, decide_eq_true_eq] at hc
        obtain ⟨⟨hn, lj⟩, li⟩ := hc
        intro c d σ' R' H' S' mv ex'
        obtain ⟨C, nC, rfl⟩ := ex'.named
        refine ⟨true, hns _ hn C nC, fun _ a na => ?_, fun z => nomatch z⟩
        have ll := mv.sr.sl.length
        have li' : i < σ'.length := by rw [ll]; exact li
        refine ⟨.ref a, by rw [List.getElem?_set_self li'], ?_⟩
        show D.nx (((σ'.set i (some (.ref a))).set j (some (.ref a))).set i none) (upd H' a (.ext (excIs a (.ref C) d)))
        have nR : R' a = none := mv.sr.rh.no na
        have sR : Sub R' (upd R' a (.ext (excIs a (.ref C) d))) := Sub.upd nR
        have sH : Sub H' (upd H' a (.ext (excIs a (.ref C) d))) := Sub.upd na
        have pf : PF R' H' (upd R' a (.ext (excIs a (.ref C) d))) (upd H' a (.ext (excIs a (.ref C) d))) NoA := PF.reg mv.sr.rh na
        obtain ⟨sr1, _⟩ := mv.sr.pure pf
        have rx : Rep K (upd R' a (.ext (excIs a (.ref C) d))) (upd H' a (.ext (excIs a (.ref C) d))) (.exc ex) (.ref a) NoA := .exc upd_same (ex'.mono sR sR)
        obtain ⟨S2, sl2, sub2⟩ := sr1.sl.put (i := j) lj (.own rx) noA_apart
        obtain ⟨S3, sl3, sub3⟩ := sl2.clear (x := none) (i := i)
        have sub : ∀ b, S3 b → S' b := fun b h => (sub2 b (sub3 b h)).elim id False.elim
        have eσ : ((σ'.set i (some (V.ref a))).set j (some (V.ref a))).set i none = (σ'.set j (some (V.ref a))).set i none := by
          rw [List.set_comm _ _ hij, List.set_set]
        rw [eσ]
        refine post _ _ _ S3 ⟨⟨sl3, sr1.rh, sr1.ph, fun b h => sr1.sf b (sub b h)⟩, noA_apart, fun _ z => z.elim, ?_, ?_⟩
        · have f1 : Fr R H S R' H' S' := mv.fr.narrow fun _ h => .inl h
          have f2 : Fr R' H' S' (upd R' a (.ext (excIs a (.ref C) d))) (upd H' a (.ext (excIs a (.ref C) d))) S' := Fr.quiet pf
          exact (f1.trans f2).narrow fun b h => h.elim (sub b) False.elim
        · refine ⟨by simpa using mv.fx.1, fun b hb => ?_⟩
          have n1 : i ≠ b := fun z => hi (z ▸ hb)
          have n2 : j ≠ b := fun z => hj (z ▸ hb)
          rw [List.getElem?_set_ne n1, List.getElem?_set_ne n2]
          exact mv.fx.2 b hb
      · cases ho
end
section
variable {X : Cx} {W : WX} {B : List Nat} {x n y : Str} {cW : Value} {i j : Nat} {ns : List Str} {body : List Stmt} {np p1 p2 p3 pos pos' : Pos} {g : Ss}
theorem sj_try (hst : X.stack = X.env :: X.outer) (hfm : X.env.frame = some X.env.locals) (hex : X.ex = []) (hN : X.N.Nodup) (hcl : Names X x cW) (tk : Takes X W)
    (hns : ∀ n ∈ ns, ∀ C, Named X.K n C → PySem.W.exmOne X.K (.ref C) cW = some true)
    (hbd : ∀ (W' : WX) (pn : List (Addr × Obj)) (xe : Value → Shared → Prop), Takes (X.tr pn xe) W' → PassesOwn (model X.prog X.w) X.A X.env xe → SJs (X.tr pn xe) W' B body g)
    (hi : X.N[i]? = some n := by rfl) (hj : X.N[j]? = some y := by rfl) (hij : i ≠ j := by decide) (hbi : i ∉ B := by decide) (hbj : j ∉ B := by decide) (hln : X.env.kindOf n = some .local := by rfl) (hvn : Vis X.env.scope n := by first | exact Or.inl rfl | exact Or.inr (Or.inl rfl))
    (hy : Loc X.env.scope y := by first | exact Or.inl rfl | exact Or.inr rfl) (hf : X.fn y = true ∨ X.env.scope.names.lookup y = some .local := by first | exact .inl rfl | exact .inr rfl)
    (hd : (n == ("__debug__" : Str)) = false := by decide) (hcd : (n == ("__classdict__" : Str)) = false := by decide) (hsw : swapsWith (.Name n p2) (some (.Name y p1)) p3.line X.env = pure false := by rfl) :
    SJ X W B (.Try body [.ExceptHandler (some (.Name x np)) (some n) [.Assign [.Name y p1] (.Name n p2) p3] pos'] [] [] pos) (sTry ns g j i) :=
  PS.imp (ps_try_ex (tb := fun W' => rdS X.K W' B g) hst hfm hex hN hi hln hcl tk hbd fun a oe cls d pn _ _ => pss_one (ps_set (X := X.suite a ((a, oe) :: pn)) hN hj hy (pe_var (X := X.suite a ((a, oe) :: pn)) hi hvn hd hcd) hsw hf)) fun _ _ _ h => sTry_imp hns hij hbj hbi h
end
end VS

set_option Elab.async false
set_option linter.all false
set_option maxRecDepth 100000
/-! Value semantics, 27: raise, isinstance of a caught exception, methods by values, defs as values. -/
namespace VS
open PySem PySem.Spec PyProof.Rows L2

/-! ### raise X('..') -/
def sRaise (x : Str) : Ss := fun env => some (.x (.own x) env)
theorem sj_raise {X : Cx} {W : WX} {B : List Nat} {x : Str} {C : Addr} {e : Expr} {pos : Pos} (hc : X.calm = true) (tk : Takes X W) (hn : Named X.K x C) (he : PMk X e (fun _ H Q => Q (.ref C) none H)) : SJ X W B (.Raise (some e) none pos) (sRaise x) :=
  PS.imp (ps_raise hc tk he) fun σ H D h => by
    obtain ⟨env, R, P, S, o, sr, ho, post⟩ := h
    cases ho
    exact post (.ref C) none σ R H S sr.stp.mv ⟨⟨C, hn, rfl⟩, rfl⟩
theorem w_raise {x : Str} {env : List T} {Q : Out → Prop} : WS (sRaise x) env Q = Q (.x (.own x) env) := wO_some
def kTry (ns : List Str) (j i : Nat) (Q : Out → Prop) : Out → Prop
  | .x ex e => (decide (exName ex ∈ ns) && decide (j < e.length) && decide (i < e.length)) = true ∧ Q (.nx ((e.set j (.exc ex)).set i .un))
  | .nx e => Q (.nx e)
  | .rt t e => Q (.rt t e)
  | .bk e => Q (.bk e)
  | .ct e => Q (.ct e)
theorem w_try {ns : List Str} {g : Ss} {j i : Nat} {env : List T} {Q : Out → Prop} : WS (sTry ns g j i) env Q = WS g env (kTry ns j i Q) := by
  unfold sTry
  show wO (match g env with | some (.x ex e) => _ | r => r) Q = wO (g env) _
  cases g env with
  | none => simp only [wO_none]
  | some r => cases r <;> simp only [wO_some, kTry, wO_ite]

/-! ### a class of exceptions: what K tells -/
structure XCls (K : PySem.W.Frag) (C : Addr) : Prop where
  cl : (PySem.W.clsIn K C).isSome = true
  ga : PySem.W.findIn K (.ref C) "__getattribute__" = some (some (.builtin "BaseException.__getattribute__"))
  gt : ∃ gt, PySem.W.findIn K (.ref C) "__getattr__" = some gt
  sb : PySem.W.subIn K (.ref C) (.type "BaseException") = some true
  ca : PySem.W.findIn K (.ref C) "__class__" = some (some (.builtin "object.__class__"))
  sp : PySem.W.specialIn K (.builtin "object.__class__") "__get__" = some (some (.builtin "getset_descriptor.__get__"))
  tk : PySem.W.takesIn K (.builtin "object.__class__") = some true
  mr : PySem.W.mroIn K C (.type "object") = some true
def rIsx (K : PySem.W.Frag) : List V → Hp → VK → Prop := fun xs H Q => ∃ (a : Addr) (cx : V) (C : Addr) (d : Option Addr) (u : Value) (b : Bool), xs = [.ref a, cx] ∧ ClsV cx u ∧ H a = some (.ext (excIs a (.ref C) d)) ∧
  (∀ dx, d = some dx → ∃ o, H dx = some o) ∧ XCls K C ∧ PySem.W.kitOne K (.ref C) u = some b ∧ Q (.bl b) H
def rIsxT (K : PySem.W.Frag) : List V → Hp → VK → Prop := fun xs H Q => ∃ (a tp : Addr) (cs : List V) (C : Addr) (d : Option Addr) (us : List Value) (b : Bool), xs = [.ref a, .ref tp] ∧ H tp = some (.tup cs) ∧ Paired ClsV cs us ∧ H a = some (.ext (excIs a (.ref C) d)) ∧
  (∀ dx, d = some dx → ∃ o, H dx = some o) ∧ XCls K C ∧ PySem.W.kitAny K (.ref C) us = some b ∧ Q (.bl b) H
section
variable {X : Cx}
theorem inst_of {pins : List (Addr × Obj)} {σ : L2.St} {H : Hp} {s : Shared} {a C : Addr} {d : Option Addr} (I : Inv X pins σ H s) (ha : H a = some (.ext (excIs a (.ref C) d))) (hd : ∀ dx, d = some dx → ∃ o, H dx = some o) :
    ∃ ox od, PySem.W.InstAt s.heap a ox C od := by
  obtain ⟨⟨oe, vs, h1, h2, h3, h4⟩, _, _⟩ := I.hok _ _ ha
  have no : PySem.W.notCls oe = true := by
    unfold PySem.W.notCls
    rw [h4]
  cases d with
  | none => exact ⟨oe, none, h1, h2, no, by rw [h3]; trivial⟩
  | some dx =>
    obtain ⟨o, ho⟩ := hd dx rfl
    obtain ⟨u, hu⟩ := objOk_get (I.hok _ _ ho)
    exact ⟨oe, some u, h1, h2, no, by rw [h3]; exact hu⟩
theorem call_isx : CallR X (.builtin "isinstance") (rIsx X.K) := by
  intro pins s σ H xs us Q I r h
  obtain ⟨a, cx, C, d, u, b, rfl, k, ha, hd, c, e, q⟩ := h
  obtain ⟨u1, u2, rfl, r1, r2⟩ := vals2 r
  have e2 := k.eq r2
  subst e2
  cases (show u1 = Value.ref a from r1)
  obtain ⟨ox, od, J⟩ := inst_of I ha hd
  obtain ⟨gt, hgt⟩ := c.gt
  exact PySem.W.kia_one (PySem.W.kitx_exc (ox := ox) (od := od) c.cl c.ga hgt c.sb c.ca c.sp c.tk c.mr) I.kIn J e (fun z => nomatch z) fun tk => ⟨.bl b, H, I.tok tk, rfl, q⟩
theorem call_isxT : CallR X (.builtin "isinstance") (rIsxT X.K) := by
  intro pins s σ H xs us Q I r h
  obtain ⟨a, tp, cs, C, d, ws, b, rfl, hT, k, ha, hd, c, e, q⟩ := h
  obtain ⟨u1, u2, rfl, r1, r2⟩ := vals2 r
  cases (show u1 = Value.ref a from r1)
  cases (show u2 = Value.ref tp from r2)
  obtain ⟨ox, od, J⟩ := inst_of I ha hd
  obtain ⟨gt, hgt⟩ := c.gt
  obtain ⟨_, its, rv, o, h1, h2, n, h3⟩ := (show ObjOk X.prog X.w H s.heap tp (.tup cs) from I.hok tp _ hT)
  have e3 := ClsV.all k rv
  subst e3
  obtain ⟨oc, odd, dt, sl⟩ := o
  simp only at h2 h3
  subst h2 h3
  exact PySem.W.kia_tup (PySem.W.kitx_exc (ox := ox) (od := od) c.cl c.ga hgt c.sb c.ca c.sp c.tk c.mr) I.kIn J h1 e (fun z => nomatch z) fun tk => ⟨.bl b, H, I.tok tk, rfl, q⟩
end
/-- isinstance(f, X): the exceptions below X, the others -/
def eIsx (yes no : List Str) (f : Es) : Es := fun env => match f env with
  | some (.ok q p e) => match p.tr with
    | .exc ex => if decide (exName ex ∈ yes) = true then some (.ok q (vBl true) e) else if decide (exName ex ∈ no) = true then some (.ok q (vBl false) e) else none
    | _ => none
  | r => r
section
variable {K : PySem.W.Frag} {W : WX} {yes no : List Str} {f : Es} {σ : L2.St} {H : Hp} {Q : VK}
theorem ExR.dict {R H : Hp} (rh : RSub R H) : ∀ {ex : Ex} {c : Value} {d : Option Addr}, ExR K R H ex c d → ∀ dx, d = some dx → ∃ o, H dx = some o
  | .own _, _, _, ⟨_, e⟩, _, h => by rw [e] at h; cases h
  | .fld _ _ _, _, _, ⟨_, a, v, e, x, _⟩, dx, h => by
    rw [e] at h; cases h
    exact rh.there x
/-- what a look at a kept exception tells -/
theorem exc_look {R P : Hp} {S Z : ASet} {p : PV} {v : V} {ex : Ex} (rh : RSub R H) (ph : RSub P H) (r : PvR K R P H S p v Z) (e : p.tr = .exc ex) :
    ∃ a c d, v = .ref a ∧ H a = some (.ext (excIs a c d)) ∧ ExR K R H ex c d := by
  obtain ⟨G, S0, g, r⟩ := r.look ph
  rw [e] at r
  cases r with
  | exc h1 h2 => exact ⟨_, _, _, rfl, rh.ex h1 rfl, by
      cases ex with
      | own _ => exact h2
      | fld _ _ _ => exact h2⟩
theorem eIsx_imp {u : Value} {cx : V} (hu : ClsV cx u) (hc : ∀ n ∈ yes ++ no, ∀ C, Named K n C → XCls K C) (hy : ∀ n ∈ yes, ∀ C, Named K n C → PySem.W.kitOne K (.ref C) u = some true) (hn : ∀ n ∈ no, ∀ C, Named K n C → PySem.W.kitOne K (.ref C) u = some false)
    (h : rdE K W (eIsx yes no f) σ H Q) : tCB (rIsx K) (tCons (rdE K W f) (tCons (tC cx) tNil)) σ H Q := by
  obtain ⟨env, R, P, S, r, sr, hr, post⟩ := h
  unfold eIsx at hr
  cases hf : f env with
  | none => rw [hf] at hr; cases hr
  | some rf =>
    rw [hf] at hr
    refine ⟨env, R, P, S, rf, sr, hf, ?_⟩
    cases rf with
    | x ex e => cases hr; exact post
    | ok q p e =>
      simp only at hr
      intro v R' H' S' Z st rv
      cases ht : p.tr with
      | exc ex =>
        rw [ht] at hr
        simp only [decide_eq_true_eq] at hr
        obtain ⟨a, c, d, rfl, h1, h2⟩ := exc_look st.sr.rh st.sr.ph rv ht
        obtain ⟨C, nC, rfl⟩ := h2.named
        split at hr
        · rename_i hm
          cases hr
          exact ⟨a, cx, C, d, u, true, rfl, hu, h1, h2.dict st.sr.rh, hc _ (List.mem_append_left _ hm) C nC, hy _ hm C nC, post _ R' H' S' NoA (st.drop fun _ h => h.elim) (Rep.dat (.bl _))⟩
        · split at hr
          · rename_i hm
            cases hr
            exact ⟨a, cx, C, d, u, false, rfl, hu, h1, h2.dict st.sr.rh, hc _ (List.mem_append_right _ hm) C nC, hn _ hm C nC, post _ R' H' S' NoA (st.drop fun _ h => h.elim) (Rep.dat (.bl _))⟩
          · cases hr
      | _ => rw [ht] at hr; cases hr
end
section
variable {X : Cx} {W : WX} {a : Expr} {f : Es} {yes no : List Str} {y : Str} {p1 p2 pos : Pos}
theorem ej_isx (ha : EJ X W a f) (hg : Gl X "isinstance") (hm : X.mg "isinstance" = none) {cx : V} {u : Value} (hcy : PE X (.Name y p2) (tC cx)) (hu : ClsV cx u)
    (hc : ∀ n ∈ yes ++ no, ∀ C, Named X.K n C → XCls X.K C) (hy : ∀ n ∈ yes, ∀ C, Named X.K n C → PySem.W.kitOne X.K (.ref C) u = some true) (hn : ∀ n ∈ no, ∀ C, Named X.K n C → PySem.W.kitOne X.K (.ref C) u = some false)
    (he : starEach [a, .Name y p2] X.env = (false, eval a X.env) :: starEach [.Name y p2] X.env := by rfl) (hpl : (backTo pos (starEach [.Name y p2] X.env)).any (·.1) = false := by rfl) :
    EJ X W (.Call (.Name "isinstance" p1) [a, .Name y p2] [] pos) (eIsx yes no f) :=
  PE.imp (pe_callB call_isx hg hm (by rfl) (pa_cons ha (pa_cons hcy pa_nil) he) (he := he) (hpl := hpl)) fun _ _ _ h => eIsx_imp hu hc hy hn h
/-- a list of classes by their names -/
structure PCl (X : Cx) (es : List Expr) (cs : List V) (us : List Value) : Prop where
  pa : PA X es (fun _ H Q => Q cs H)
  pr : Paired ClsV cs us
theorem pcl_nil : PCl X [] [] [] := ⟨PA.imp pa_nil fun _ _ _ h => h, .nil⟩
theorem pcl_cons {e : Expr} {es : List Expr} {c : V} {u : Value} {cs : List V} {us : List Value} (he : PE X e (tC c)) (hu : ClsV c u) (h : PCl X es cs us) (hs : starEach (e :: es) X.env = (false, eval e X.env) :: starEach es X.env := by rfl) : PCl X (e :: es) (c :: cs) (u :: us) :=
  ⟨PA.imp (pa_cons he h.pa hs) fun _ _ _ h => h, .cons hu h.pr⟩
theorem ej_isxT {es : List Expr} {x1 : _} {cs : List V} {us : List Value} (ha : EJ X W a f) (hg : Gl X "isinstance") (hm : X.mg "isinstance" = none) (hcs : PCl X es cs us) (hl : cs.length ≤ sizeLine)
    (hc : ∀ n ∈ yes ++ no, ∀ C, Named X.K n C → XCls X.K C) (hy : ∀ n ∈ yes, ∀ C, Named X.K n C → PySem.W.kitAny X.K (.ref C) us = some true) (hn : ∀ n ∈ no, ∀ C, Named X.K n C → PySem.W.kitAny X.K (.ref C) us = some false)
    (he : starEach [a, .Tuple es x1 p2] X.env = (false, eval a X.env) :: starEach [.Tuple es x1 p2] X.env := by rfl) (hpl : (backTo pos (starEach [.Tuple es x1 p2] X.env)).any (·.1) = false := by rfl) :
    EJ X W (.Call (.Name "isinstance" p1) [a, .Tuple es x1 p2] [] pos) (eIsx yes no f) := by
  refine PE.imp (pe_callB call_isxT hg hm (by rfl) (pa_cons ha (pa_cons (pe_tup hcs.pa) pa_nil) he) (he := he) (hpl := hpl)) fun σ H Q h => ?_
  obtain ⟨env, R, P, S, r, sr, hr, post⟩ := h
  unfold eIsx at hr
  cases hf : f env with
  | none => rw [hf] at hr; cases hr
  | some rf =>
    rw [hf] at hr
    refine ⟨env, R, P, S, rf, sr, hf, ?_⟩
    cases rf with
    | x ex e => cases hr; exact post
    | ok q p e =>
      simp only at hr
      intro v R' H' S' Z st rv
      refine ⟨hl, fun tp ntp => ?_⟩
      cases ht : p.tr with
      | exc ex =>
        rw [ht] at hr
        simp only [decide_eq_true_eq] at hr
        obtain ⟨A, c, d, rfl, h1, h2⟩ := exc_look st.sr.rh st.sr.ph rv ht
        obtain ⟨C, nC, rfl⟩ := h2.named
        have up : ∀ {b : Addr} {o : HO}, H' b = some o → upd H' tp (.tup cs) b = some o := fun {b o} e => by rw [upd_ne (ne_of_none e ntp)]; exact e
        have stp := st.next (st.sr.step (PF.own (o := .tup cs) st.sr.rh ntp))
        rw [Bool.and_true] at stp
        have dd := h2.dict st.sr.rh
        split at hr
        · rename_i hm
          cases hr
          exact ⟨A, tp, cs, C, d, us, true, rfl, upd_same, hcs.pr, up h1, fun dx h => (dd dx h).imp fun o k => up k, hc _ (List.mem_append_left _ hm) C nC, hy _ hm C nC,
            post _ R' _ S' NoA (stp.drop fun _ h => h.elim) (Rep.dat (.bl _))⟩
        · split at hr
          · rename_i hm
            cases hr
            exact ⟨A, tp, cs, C, d, us, false, rfl, upd_same, hcs.pr, up h1, fun dx h => (dd dx h).imp fun o k => up k, hc _ (List.mem_append_right _ hm) C nC, hn _ hm C nC,
              post _ R' _ S' NoA (stp.drop fun _ h => h.elim) (Rep.dat (.bl _))⟩
          · cases hr
      | _ => rw [ht] at hr; cases hr
end
def kIsx (yes no : List Str) (Q : Er → Prop) : Er → Prop
  | .ok q p e => match p.tr with
    | .exc ex => if decide (exName ex ∈ yes) = true then Q (.ok q (vBl true) e) else decide (exName ex ∈ no) = true ∧ Q (.ok q (vBl false) e)
    | _ => False
  | .x ex e => Q (.x ex e)
theorem w_isx {yes no : List Str} {f : Es} {env : List T} {Q : Er → Prop} : WE (eIsx yes no f) env Q = WE f env (kIsx yes no Q) := by
  unfold eIsx
  show wO (match f env with | some (.ok q p e) => _ | r => r) Q = wO (f env) _
  cases f env with
  | none => simp only [wO_none]
  | some r => cases r with
    | x ex e => simp only [wO_some, kIsx]
    | ok q p e =>
      simp only [wO_some, kIsx]
      cases p.tr with
      | exc ex =>
        simp only
        split
        · simp only [wO_some]
        · rw [wO_ite, wO_some]
      | _ => simp only [wO_none]

/-! ### methods by values -/
def eM (k : T → Bool) (op : List PV → Option PV) (fo : Es) (g : As) : Es := fun env => match fo env with
  | some (.ok q a e1) => if k a.tr = true then (match g e1 with
    | some (.ok q2 l e2) => if (a.held || q2) = true then ((valsA l).bind fun ps => op (a :: ps)).map fun p => .ok (q && q2) p e2 else none
    | some (.x ex e) => some (.x ex e)
    | none => none) else none
  | r => r
structure KindP (K : PySem.W.Frag) (k : T → Bool) (ty : String) : Prop where
  ty : ∀ {R G H : Hp} {t : T} {v : V} {Z : ASet}, RSub R H → RSub G H → Rep K R G t v Z → k t = true → tyV K ty v H
def MetK (K : PySem.W.Frag) (r : V → List V → Hp → VK → Prop) (op : List PV → Option PV) : Prop := ∀ {R P H : Hp} {S Z Z2 : ASet} {a : PV} {ps : List PV} {q : PV} {x : V} {xs : List V} {Q : VK},
  RSub R H → RSub P H → PvR K R P H S a x Z → PvsR K R P H S ps xs Z2 → op (a :: ps) = some q → (∀ z R' H' Z', PF R H R' H' Z' → PvR K R' P H' S q z Z' → Q z H') → r x xs H Q
section
variable {K : PySem.W.Frag} {W : WX} {k : T → Bool} {ty : String} {op : List PV → Option PV} {fo : Es} {g : As} {σ : L2.St} {H : Hp} {Q : VK} {r : V → List V → Hp → VK → Prop}
theorem eM_imp (ko : KindP K k ty) (mk : MetK K r op) (h : rdE K W (eM k op fo g) σ H Q) : tBM K ty r (rdE K W fo) (rdA K W g) σ H Q := by
  obtain ⟨env, R, P, S, rr, sr, hr, post⟩ := h
  unfold eM at hr
  cases ha : fo env with
  | none => rw [ha] at hr; cases hr
  | some ra =>
    rw [ha] at hr
    refine ⟨env, R, P, S, ra, sr, ha, ?_⟩
    cases ra with
    | x ex e => cases hr; exact post
    | ok q a e1 =>
      simp only at hr
      intro v1 R1 H1 S1 Z1 t1 p1
      split at hr
      · rename_i hk
        obtain ⟨G, S0, gh, rp⟩ := p1.look t1.sr.ph
        refine ⟨ko.ty t1.sr.rh gh rp hk, ?_⟩
        cases hb : g e1 with
        | none => rw [hb] at hr; cases hr
        | some rb =>
          rw [hb] at hr
          refine ⟨e1, R1, P, S1, rb, t1.sr, hb, ?_⟩
          cases rb with
          | x ex e => cases hr; exact fun c d R' H' S' s' f' ex' => post c d R' H' S' s' (t1.frX f') ex'
          | ok q2 l e2 =>
            simp only at hr
            split at hr
            · rename_i hc
              cases hv : valsA l with
              | none => rw [hv] at hr; cases hr
              | some ps =>
                rw [hv] at hr
                cases ho : op (a :: ps) with
                | none => rw [Option.bind_some, ho] at hr; cases hr
                | some p =>
                  rw [Option.bind_some, ho] at hr
                  cases hr
                  intro xs R2 H2 S2 Z2 t2 ars
                  have p1' := PvR.over t1 p1 t2 hc
                  refine mk t2.sr.rh t2.sr.ph p1' (valsA_rep ars hv) ho fun z R3 H3 Z3 f pz => ?_
                  have t3 := t2.sr.step f
                  have t123 := t1.next (t2.next t3)
                  rw [Bool.and_true] at t123
                  exact post z R3 H3 S2 Z3 t123 pz
            · cases hr
      · cases hr
end
theorem rdE_mono {K : PySem.W.Frag} {W : WX} {f : Es} {σ : L2.St} {H : Hp} {Q Q' : VK} (h : rdE K W f σ H Q) (k : ∀ v H1, Q v H1 → Q' v H1) : rdE K W f σ H Q' := by
  obtain ⟨env, R, P, S, r, sr, hr, post⟩ := h
  refine ⟨env, R, P, S, r, sr, hr, ?_⟩
  cases r with
  | ok q p e => exact fun v R' H' S' Z st rv => k _ _ (post v R' H' S' Z st rv)
  | x ex e => exact post
section
variable {X : Cx} {W : WX} {k : T → Bool} {T0 id : String} {name : Str} {op : List PV → Option PV} {fo : Es} {g : As} {r : V → List V → Hp → VK → Prop} {o e : Expr} {es : List Expr} {apos cpos : Pos}
theorem ej_m (ko : KindP X.K k T0) (mk : MetK X.K r op) (pa : PlainAttrs T0) (slot : Slot T0 name id) (hty : typeOf (.builtin id) = pure (.type "method_descriptor")) (hm : MtR X id r) (ho : EJ X W o fo) (ha : AJ X W (e :: es) g)
    (hbase : attributeBase o name X.env (eval o X.env) = eval o X.env := by rfl)
    (hfew : ((backTo cpos (starEach (e :: es) X.env)).all (fun x => !x.1) && (backToKw cpos (keywordEach [] X.env)).all (fun x => x.1.isSome) && decide ((e :: es).length + ([] : List Keyword).length + (if ([] : List Keyword).isEmpty then 0 else 1) < 30)) = true := by rfl)
    (hline : (apos.endLine == cpos.line) = true := by rfl) (hs : starEach (e :: es) X.env = (false, eval e X.env) :: starEach es X.env := by rfl) (hplain : (backTo cpos (starEach es X.env)).any (·.1) = false := by rfl) :
    EJ X W (.Call (.Attribute o name apos) (e :: es) [] cpos) (eM k op fo g) :=
  PE.imp (pe_bm pa slot hty hm ho ha hbase hfew hline hs hplain) fun _ _ _ h => eM_imp ko mk h
theorem ej_m0 (ko : KindP X.K k T0) (mk : MetK X.K r op) (pa : PlainAttrs T0) (slot : Slot T0 name id) (hty : typeOf (.builtin id) = pure (.type "method_descriptor")) (hm : MtR X id r) (ho : EJ X W o fo)
    (hbase : attributeBase o name X.env (eval o X.env) = eval o X.env := by rfl) (hline : (apos.endLine == cpos.line) = true := by rfl) :
    EJ X W (.Call (.Attribute o name apos) [] [] cpos) (eM k op fo aNil) :=
  PE.imp (pe_bm0 pa slot hty hm ho hbase hline) fun σ H Q h => by
    have z := eM_imp ko mk h
    refine rdE_mono z fun v H1 ⟨a, b⟩ => ⟨a, ?_⟩
    exact aNil_imp b
end
end VS

set_option Elab.async false
set_option linter.all false
set_option maxRecDepth 100000
/-! Value semantics, 28: index and count of lists, defs as values, calls of what a slot holds. -/
namespace VS
open PySem PySem.Spec PyProof.Rows L2

def isLi : T → Bool
  | .lst _ => true
  | .dat (.list _) => true
  | _ => false
theorem kpL {K : PySem.W.Frag} : KindP K isLi "list" := ⟨fun {R G H t v Z} rh gh r h => by
  cases r with
  | lst h1 _ _ => exact .inl ⟨rfl, _, SqL.of (gh.ex h1 rfl)⟩
  | dat hd =>
    cases hd with
    | lst h1 _ => exact .inl ⟨rfl, _, SqL.of (rh.ex h1 rfl)⟩
    | _ => cases h
  | _ => cases h⟩
def bIndex : List PV → Option PV
  | [a, y] => match pD a, pD y with
    | some (.list ds), some d => if (SeqAt.shaped (.list ds) && SeqAt.shaped d) = true then (ds.findIdx? fun z => PyData.eqv z d).map fun j => vInt j else none
    | _, _ => none
  | _ => none
def bCount : List PV → Option PV
  | [a, y] => match pD a, pD y with
    | some (.list ds), some d => if (SeqAt.shaped (.list ds) && SeqAt.shaped d) = true then some (vInt (ds.countP fun z => PyData.eqv z d)) else none
    | _, _ => none
  | _ => none
section
variable {K : PySem.W.Frag}
theorem canLay_sh {d : D} (h : SeqAt.shaped d = true) : d.canLay0 = true := SeqAt.canLay_of_shaped h
theorem PvsR.one1 {R P H : Hp} {S Z : ASet} {p : PV} {xs : List V} (h : PvsR K R P H S [p] xs Z) : ∃ x Z1, xs = [x] ∧ PvR K R P H S p x Z1 := by
  cases h with
  | cons a b _ => cases b; exact ⟨_, _, rfl, a⟩
theorem mk_index : MetK K (rIndexD K) bIndex := fun {R P H S Z Z2 a ps q x xs Q} rh ph ra rps e k => by
  unfold bIndex at e
  split at e
  · rename_i a' y heq
    cases heq
    split at e
    · rename_i ds d ea ey
      split at e
      · rename_i hs
        rw [Bool.and_eq_true] at hs
        obtain ⟨yv, Z1, rfl, ry⟩ := rps.one1
        have da := pD_rep rh ph ra ea
        have dy := pD_rep rh ph ry ey
        cases hj : ds.findIdx? fun z => PyData.eqv z d with
        | none => rw [hj] at e; cases e
        | some j =>
          rw [hj] at e
          cases e
          obtain ⟨h1, h2, h3⟩ := List.findIdx?_eq_some_iff_getElem.mp hj
          have da' := Dat.dp (K := K) da (canLay_sh hs.1)
          cases da with
          | lst g1 g2 =>
            refine ⟨_, yv, d, ds, j, ds[j], rfl, rfl, da', Dat.dp dy (canLay_sh hs.2), hs.1, hs.2, List.getElem?_eq_getElem h1, h2, fun m z' hm hz => ?_, k _ R H NoA (PF.refl rh) (Rep.dat (.int _))⟩
            obtain ⟨l, rfl⟩ := List.getElem?_eq_some_iff.mp hz
            exact Bool.eq_false_iff.mpr (h3 m hm)
      · cases e
    · cases e
  · cases e
/-- l.count(x): how many equal ones -/
def rCountD (K : PySem.W.Frag) : V → List V → Hp → VK → Prop := fun x xs H Q => ∃ (a : Addr) (y : V) (d : D) (ds : List D), x = V.ref a ∧ xs = [y] ∧ Dp K H (V.ref a) (.list ds) ∧ Dp K H y d ∧ SeqAt.shaped (.list ds) = true ∧ SeqAt.shaped d = true ∧ Q (.int (ds.countP fun z => PyData.eqv z d : Nat)) H
theorem mk_count : MetK K (rCountD K) bCount := fun {R P H S Z Z2 a ps q x xs Q} rh ph ra rps e k => by
  unfold bCount at e
  split at e
  · rename_i a' y heq
    cases heq
    split at e
    · rename_i ds d ea ey
      split at e
      · rename_i hs
        rw [Bool.and_eq_true] at hs
        cases e
        obtain ⟨yv, Z1, rfl, ry⟩ := rps.one1
        have da := pD_rep rh ph ra ea
        have dy := pD_rep rh ph ry ey
        have da' := Dat.dp (K := K) da (canLay_sh hs.1)
        cases da with
        | lst g1 g2 => exact ⟨_, yv, d, ds, rfl, rfl, da', Dat.dp dy (canLay_sh hs.2), hs.1, hs.2, k _ R H NoA (PF.refl rh) (Rep.dat (.int _))⟩
      · cases e
    · cases e
  · cases e
theorem mt_countD {X : Cx} (hu : X.A.units + 65 < cLine) : MtR X "list.count" (rCountD X.K) := by
  intro pins s σ H x xs v us Q I rx rxs h
  obtain ⟨a, y, d, ds, rfl, rfl, hl, hy, sl, sd, q⟩ := h
  cases rx
  cases rxs with
  | cons ry rt =>
    rename_i uy ut
    cases rt
    obtain ⟨bs, r1⟩ := Dp.reads I d y uy hy ry
    have hxs : PyData.canLayAll0 ds = true := SeqAt.canLay_of_shaped sl
    have hroom : X.A.units + 1 + min (PyData.depthAll ds) d.depth < cLine := room_in_shaped sd hu
    cases hl with
    | lst hs ha =>
      obtain ⟨its, rv, ⟨⟨cls, dd, data, sls⟩, n, ho, hc, hdn, hdt⟩, hlen⟩ := I.list hs
      simp only at hc hdt
      subst hc hdt
      obtain ⟨as, h4⟩ := Dp.readsAll I ds _ its ha rv
      have hmap : its.map (SeqAt.readOf s.heap) = ds := SeqAt.readsAll_map ds its as hxs h4
      refine call_meets PySem.F.slot_list_count ⟨_, ho, rfl⟩ PySem.F.entry_list_count (PySem.F.args_list_count_2 _ _)
        (SeqAt.list_countAt a its.toArray n dd sls uy (fun u => PyData.eqv (SeqAt.readOf s.heap u) d)) ⟨ho, SeqAt.items_eqAt (vs := its.toArray) (show ReadsAll s.heap its.toArray.toList ds as from h4) r1 hxs (SeqAt.canLay_of_shaped sd) hroom, ?_⟩
      have ec : its.toArray.toList.countP (fun u => PyData.eqv (SeqAt.readOf s.heap u) d) = ds.countP fun z => PyData.eqv z d := by
        rw [← hmap, List.countP_map]; rfl
      refine ⟨.int (ds.countP fun z => PyData.eqv z d : Nat), H, I.tok _, ⟨s.toks, ?_⟩, q⟩
      show Value.int ((its.toArray.toList.countP (fun u => PyData.eqv (SeqAt.readOf s.heap u) d) : Nat) : Int) s.toks = _
      rw [ec]
end
/-! ### defs as values -/
theorem Named.same {K : PySem.W.Frag} {x : Str} {a b : Addr} (h : Named K x a) (k : Named K x b) : a = b := by
  unfold Named at h k
  rw [h] at k
  cases k
  rfl
def eFn (x : Str) : Es := fun env => some (.ok true (.fr (.fn x)) env)
theorem ej_fn {X : Cx} {W : WX} {k : Nat} {x : Str} {ps : List Str} {F : Fs} {pos : Pos} (D : Dep X.prog X.w X.K X.mg X.base k x ps F) (gl : Gl X x := by rfl) (hd : (x == ("__debug__" : Str)) = false := by decide) : EJ X W (.Name x pos) (eFn x) := by
  obtain ⟨f, fd, G, hm, hk, hb, hn⟩ := D.ex
  refine PE.imp (pe_glob (v := .ref f) gl hm rfl hd) fun σ H Q h => ?_
  obtain ⟨env, R, P, S, r, sr, hr, post⟩ := h
  cases hr
  exact post _ R H S NoA sr.stp (Rep.fn hn)
theorem w_efn {x : Str} {env : List T} {Q : Er → Prop} : WE (eFn x) env Q = Q (.ok true (.fr (.fn x)) env) := wO_some
/-- the call of what slot i holds -/
def eCallV (i : Nat) (tbl : List (Str × Fs)) (g : As) : Es := fun env => match env[i]? with
  | some (.fn x) => (match tbl.lookup x with
    | some F => eCall F g env
    | none => none)
  | _ => none
def kCv (tbl : List (Str × Fs)) (g : As) (env : List T) (Q : Er → Prop) : T → Prop
  | .fn x => wO (tbl.lookup x) fun F => WE (eCall F g) env Q
  | _ => False
theorem w_callV {i : Nat} {tbl : List (Str × Fs)} {g : As} {env : List T} {Q : Er → Prop} : WE (eCallV i tbl g) env Q = wO (env[i]?) (kCv tbl g env Q) := by
  unfold eCallV
  show wO (match env[i]? with | some (.fn x) => (match tbl.lookup x with | some F => eCall F g env | none => none) | _ => none) Q = _
  cases env[i]? with
  | none => simp only [wO_none]
  | some t => cases t with
    | fn x =>
      simp only [wO_some, kCv]
      cases tbl.lookup x with
      | none => simp only [wO_none]
      | some F => simp only [wO_some]
    | _ => simp only [wO_some, wO_none, kCv]
theorem ej_callV {X : Cx} {W : WX} {k : Nat} {tbl : List (Str × Fs)} {g : As} {y : Str} {e : Expr} {es : List Expr} {p pos : Pos} (tb : ∀ x F, tbl.lookup x = some F → ∃ ps, Dep X.prog X.w X.K X.mg X.base k x ps F) (hr : Room k X.A) (hg : X.A.guards = some []) (tk : Takes X W) (i : Nat) (ha : AJ X W (e :: es) g)
    (hN : X.N[i]? = some y := by rfl) (hv : Vis X.env.scope y := by first | exact Or.inl rfl | exact Or.inr (Or.inl rfl) | exact Or.inr (Or.inr rfl))
    (hdb : (y == ("__debug__" : Str)) = false := by decide) (hcd : (y == ("__classdict__" : Str)) = false := by decide)
    (he : starEach (e :: es) X.env = (false, eval e X.env) :: starEach es X.env := by rfl) (hpl : (backTo pos (starEach es X.env)).any (·.1) = false := by rfl) :
    EJ X W (.Call (.Name y p) (e :: es) [] pos) (eCallV i tbl g) := by
  refine ⟨fun pins s σ H Q I h => ?_⟩
  obtain ⟨env, R, P, S, r, sr, hrr, post⟩ := h
  unfold eCallV at hrr
  split at hrr
  · rename_i x hx
    split at hrr
    · rename_i F hF
      obtain ⟨ps, D⟩ := tb x F hF
      obtain ⟨f, fd, G, hm, hk, hb, hn⟩ := D.ex
      rcases sr.sl.get hx with z | ⟨v, S1, h1, h2, h3⟩
      · cases z
      · have ev : v = .ref f := by
          cases h2 with
          | own h2 =>
            cases h2 with
            | fn n => rw [n.same hn]
        subst ev
        have call : tCallG X.K W F (rdA X.K W g) σ H Q := eCall_imp ⟨env, R, P, S, r, sr, hrr, post⟩
        refine wpAny_Call_Name_kw (thn ((pe_var (pos := p) hN hv hdb hcd).run pins s σ H (fun v H1 => v = .ref f ∧ H1 = H) I ⟨.ref f, h1, rfl, rfl⟩) fun u s1 ⟨v, H1, I1, r1, q1⟩ => ?_)
        obtain ⟨rfl, rfl⟩ := q1
        cases r1
        refine PySem.W.callWith_K (h₀ := X.base) I.ok.mod.kin hk (thn (ha.run pos pins s1 σ _ _ I1 call) fun us s2 ⟨vs, H2, I2, r2, q⟩ => ?_) he hpl
        exact ⟨I2.kIn, run_g G hr hg hb tk I2 r2 q⟩
    · cases hrr
  · cases hrr
theorem tb_nil {P : Program} {w : World} {K : PySem.W.Frag} {mg : Str → Option Value} {base : Heap} {k : Nat} : ∀ x F, ([] : List (Str × Fs)).lookup x = some F → ∃ ps, Dep P w K mg base k x ps F := fun _ _ h => nomatch h
theorem tb_cons {P : Program} {w : World} {K : PySem.W.Frag} {mg : Str → Option Value} {base : Heap} {k : Nat} {x0 : Str} {ps : List Str} {F0 : Fs} {r : List (Str × Fs)} (D : Dep P w K mg base k x0 ps F0) (h : ∀ x F, r.lookup x = some F → ∃ ps, Dep P w K mg base k x ps F) :
    ∀ x F, ((x0, F0) :: r).lookup x = some F → ∃ ps, Dep P w K mg base k x ps F := fun x F e => by
  rw [List.lookup_cons] at e
  cases hx : x == x0 with
  | true =>
    rw [hx] at e
    cases e
    have : x = x0 := by simpa using hx
    subst this
    exact ⟨ps, D⟩
  | false =>
    rw [hx] at e
    exact h x F e
theorem al_nil {K : PySem.W.Frag} {Pr : Addr → Prop} : ∀ n ∈ ([] : List Str), ∀ C, Named K n C → Pr C := fun _ h => nomatch h
theorem al_cons {K : PySem.W.Frag} {Pr : Addr → Prop} {x : Str} {c : Addr} {r : List Str} (n : Named K x c) (p : Pr c) (h : ∀ n ∈ r, ∀ C, Named K n C → Pr C) : ∀ n ∈ x :: r, ∀ C, Named K n C → Pr C := fun y hy C hC => by
  rcases List.mem_cons.mp hy with e | hy
  · subst e
    rw [← n.same hC]; exact p
  · exact h y hy C hC
end VS

set_option Elab.async false
set_option linter.all false
set_option maxRecDepth 100000
/-! Value semantics, 29: list(range(..)) of whole numbers of any size. -/
namespace VS
open PySem PySem.Spec PyProof.Rows L2
section
variable {prog : Program} {w : World} {A : Around} {E : Value → Shared → Prop} {s : Shared}
theorem extend_longrange {Rs : Result → Shared → Prop} {r : Addr} {a b c : Int} {t u v : Tok} {n : Nat} (hh : A.handled = none) (hr : IsRange s.heap r a b c t u v) (hbig : Builtin.Range.small a b c = false)
    (hn : Builtin.Range.rangeSize a b c = n) (hlen : n ≤ 2 ^ 24) (L : Addr) (res : Value) (c₀ : Nat) (hL : s.heap.get? L = some { cls := .type "list", data := .seq #[] c₀ })
    (hR : ∀ h' tk acc' c', (∀ b o, b ≠ L → s.heap.get? b = some o → h'.get? b = some o) → h'.get? L = some { cls := .type "list", dict := none, data := .seq acc' c', slots := #[] } →
      ItemsOf (fun i v => ∃ t, v = .int (a + i * c) t) acc' n → Rs (.ok (.ret res)) { s with heap := h', toks := tk }) :
    wpAny (model prog w) A.in1 (Builtin.List.listExtendWith (.ref L) (.ref r) res)
      (fun fin s' => match fin with | .done f => Rs (.ok f) s' | .again c' => c'.quiet = true ∧ codeAny (model prog w) A c' Rs s') (fun e s' => Rs (.error e) s') s := by
  have hLr : L ≠ r := fun e => by rw [e, hr] at hL; simp at hL
  have hLlt : L < s.heap.objs.size := Heap.lt_size hL
  have hLI : L ≠ s.heap.objs.size := Nat.ne_of_lt hLlt
  have hLf : L ∉ [s.heap.objs.size] := fun hm => hLI (List.mem_singleton.mp hm)
  have Wk := (Walks.longrange (prog := prog) (w := w) (A := A.in1) hh s.heap.objs.size a c n).toS
  have goes : ∀ (h : Heap) (c₁ tk : Nat), IsLongIter h s.heap.objs.size (a + ((0 : Nat) : Int) * c) ((n : Int) - ((0 : Nat) : Int)) c → (∀ b o, b ≠ L → s.heap.get? b = some o → h.get? b = some o) →
      h.get? L = some { cls := .type "list", data := .seq #[] c₁ } → codeAny (model prog w) A (.builtin "list.extend.loop" ⟨[.ref L, .ref s.heap.objs.size, res], []⟩) Rs { s with heap := h, toks := tk } := by
    intro h c₁ tk hit hk hL1
    refine codeAny_extend_loopS Wk (by rw [sizeLine_eq]; omega) L hLf res n 0 _ #[] c₁ rfl (Nat.zero_le _) hit hL1 (ItemsOf.nil _) fun s' acc' c' hm hL2 hacc => ?_
    rw [Moved.eq_with hm]
    refine hR s'.heap s'.toks acc' c' (fun b o hb e => hm.heap b o (fun hmem => ?_) (hk b o hb e)) hL2 hacc
    rcases List.mem_cons.mp hmem with e2 | hmem
    · exact hb e2
    · exact absurd (Heap.lt_size e) (by rw [List.mem_singleton.mp hmem]; exact Nat.lt_irrefl _)
  unfold Builtin.List.listExtendWith
  refine wpAny_bind (wpAny_typeOf (T := "range") ⟨_, hr, rfl⟩ ?_)
  have q1 : Builtin.List.listSameRef (.ref L) (.ref r) = false := by simp [Builtin.List.listSameRef, hLr]
  have q2 : (Value.type "range" == Value.type "list") = false := by decide
  have q3 : (Value.type "range" == Value.type "tuple") = false := by decide
  simp only [q1, q2, q3, Bool.or_false, Bool.false_eq_true, if_false]
  refine wpAny_bind (wpAny_pyIter_longrange hr hbig ?_)
  refine wpAny_bind (wpAny_holding (wpAny_hint_range (n := n) (Heap.get?_push_of_some _ hr) hn hlen ?_))
  have hit1 : IsLongIter (s.heap.push { cls := .type "longrange_iterator", data := .fields #[rawInt a, rawInt (Builtin.Range.rangeSize a b c), rawInt c] }) s.heap.objs.size (a + ((0 : Nat) : Int) * c) ((n : Int) - ((0 : Nat) : Int)) c := by
    show IsLongIter _ _ _ _ _; rw [hn]; simpa using Heap.get?_push_size _ rfl
  have hL1 := Heap.get?_push_of_some { cls := .type "longrange_iterator", data := .fields #[rawInt a, rawInt (Builtin.Range.rangeSize a b c), rawInt c] } hL
  refine wpAny_ite_split (fun _ => ?_) (fun _ => wpAny_pure ⟨plainId_quiet F.plain_extend_loop _, goes _ c₀ _ hit1 (fun b o _ e => Heap.get?_push_of_some _ e) hL1⟩)
  refine wpAny_bind (wpAny_rule ?_)
  refine wpAny_bind ?_
  show wpAny _ _ (updateSeq L (·.push .none) >>= fun _ => updateSeq L (·.pop)) _ _ _
  refine wpAny_bind (wpAny_updateSeq hL1 rfl ?_)
  have hL2 := Heap.get?_update_self (Obj.mapSeq (·.push Value.none)) hL1 rfl
  refine wpAny_updateSeq (hz := by seq_fits) hL2 rfl ?_
  have hL3 := Heap.get?_update_self (Obj.mapSeq (·.pop)) hL2 rfl
  refine wpAny_pure ⟨plainId_quiet F.plain_extend_loop _, goes _ _ _ ?_ (fun b o hb e => ?_) hL3⟩
  · exact (Heap.get?_update_other _ _ hLI).trans ((Heap.get?_update_other _ _ hLI).trans hit1)
  · exact (Heap.get?_update_other _ _ (Ne.symm hb)).trans ((Heap.get?_update_other _ _ (Ne.symm hb)).trans (Heap.get?_push_of_some _ e))
theorem init_longrange {Rs : Result → Shared → Prop} {r : Addr} {a b c : Int} {t u v : Tok} {n : Nat} (hh : A.handled = none) (hr : IsRange s.heap r a b c t u v) (hbig : Builtin.Range.small a b c = false)
    (hn : Builtin.Range.rangeSize a b c = n) (hlen : n ≤ 2 ^ 24) (L : Addr) (hL : s.heap.get? L = some { cls := .type "list", data := .seq #[] })
    (hR : ∀ h' tk acc' c', (∀ b o, b ≠ L → s.heap.get? b = some o → h'.get? b = some o) → h'.get? L = some { cls := .type "list", dict := none, data := .seq acc' c', slots := #[] } →
      ItemsOf (fun i v => ∃ t, v = .int (a + i * c) t) acc' n → Rs (.ok (.ret .none)) { s with heap := h', toks := tk }) :
    wpAny (model prog w) A.in1 (Builtin.«list.__init__» ⟨[.ref L, .ref r], []⟩)
      (fun fin s' => match fin with | .done f => Rs (.ok f) s' | .again c' => c'.quiet = true ∧ codeAny (model prog w) A c' Rs s') (fun e s' => Rs (.error e) s') s := by
  have hLr : L ≠ r := fun e => by rw [e, hr] at hL; simp at hL
  show wpAny _ _ (do let old ← Builtin.List.listItems (.ref L); Builtin.List.listUpdate (.ref L) (fun _ => #[]); letGo old.toList.reverse; Builtin.List.listExtendWith (.ref L) (.ref r) .none) _ _ s
  refine wpAny_bind ?_
  unfold Builtin.List.listItems
  refine wpAny_bind (wpAny_seqItems hL rfl (wpAny_pure ?_))
  show wpAny _ _ (updateSeq L (fun _ => #[]) >>= fun _ => letGo (#[] : Array Value).toList.reverse >>= fun _ => Builtin.List.listExtendWith (.ref L) (.ref r) .none) _ _ s
  refine wpAny_bind (wpAny_updateSeq hL rfl ?_)
  have hL2 := Heap.get?_update_self (Obj.mapSeq (fun _ => (#[] : Array Value))) hL rfl
  have oth : ∀ b o, b ≠ L → s.heap.get? b = some o → (s.heap.update L (Obj.mapSeq (fun _ => (#[] : Array Value)))).get? b = some o :=
    fun b o hb e => (Heap.get?_update_other _ _ (Ne.symm hb)).trans e
  refine wpAny_bind (wpAny_letGo ?_)
  refine extend_longrange hh (oth r _ (Ne.symm hLr) hr) hbig hn hlen L .none _ hL2 fun h' tk acc' c' hk hL3 hacc => ?_
  exact hR h' tk acc' c' (fun b o hb e => hk b o hb (oth b o hb e)) hL3 hacc
theorem call_list_longrange {Q : Value → Shared → Prop} {r : Addr} {a b c : Int} {t u v : Tok} {n : Nat} (hh : A.handled = none) (hr : IsRange s.heap r a b c t u v) (hbig : Builtin.Range.small a b c = false)
    (hn : Builtin.Range.rangeSize a b c = n) (hlen : n ≤ 2 ^ 24)
    (hQ : ∀ h' tk acc' c', (∀ b o, s.heap.get? b = some o → h'.get? b = some o) →
      h'.get? s.heap.objs.size = some { cls := .type "list", dict := none, data := .seq acc' c', slots := #[] } → ItemsOf (fun i v => ∃ t, v = .int (a + i * c) t) acc' n → Q (.ref s.heap.objs.size) { s with heap := h', toks := tk }) :
    wpAny (model prog w) A (call (.type "list") [.ref r]) Q E s := by
  refine callType_codes (Q₁ := fun obj s₁ => obj = .ref s.heap.objs.size ∧ s₁ = { s with heap := s.heap.push { cls := .type "list", data := .seq #[] } }) F.called_list (F.typeCall_list_1 _) F.entry_list_init
    (code_list_new _ ⟨rfl, rfl⟩) fun obj s₁ h₁ => ?_
  obtain ⟨rfl, rfl⟩ := h₁
  have hL : (s.heap.push { cls := .type "list", data := .seq #[] }).get? s.heap.objs.size = some { cls := .type "list", data := .seq #[] } := Heap.get?_push_size _ rfl
  refine ⟨⟨_, hL, rfl⟩, F.args_list_init_2 _ _, init_longrange (A := A.in1) hh (Heap.get?_push_of_some _ hr) hbig hn hlen _ hL fun h' tk acc' c' hk hL2 hacc => ?_⟩
  exact ⟨rfl, hQ h' tk acc' c' (fun b o e => hk b o (Nat.ne_of_lt (Heap.lt_size e)) (Heap.get?_push_of_some _ e)) hL2 hacc⟩
end
def tLstRgU (te : L2.St → Hp → (Int → Int → Hp → Prop) → Prop) : TE := fun σ H Q => te σ H fun a b H1 => (b - a).toNat ≤ 2 ^ 24 ∧ ∀ q, H1 q = none → Q (.ref q) (upd H1 q (.lst (rgV a b)))
section
variable {X : Cx} {e : Expr} {te : L2.St → Hp → (Int → Int → Hp → Prop) → Prop}
theorem pe_listRgU {p pos : Pos} (hc : X.calm = true) (hg : Gl X "list") (hm : X.mg "list" = none) (he : PRg X e te) (na : starEach [e] X.env = (false, eval e X.env) :: starEach [] X.env := by rfl) : PE X (.Call (.Name "list" p) [e] [] pos) (tLstRgU te) := by
  refine ⟨fun pins s σ H Q I h => ?_⟩
  refine Call_ (ld_blt I hg hm boot_list (PyProof.Rows.callWith_type1 (args_cons (thn (he pins s σ H _ I h) fun x s1 ⟨r, a, b, t, u, v, H1, ex, hr, I1, b5, q⟩ => args_nil ?_) na) na))
  subst ex
  have fin : ∀ h' tk acc' c', (∀ b o, s1.heap.get? b = some o → h'.get? b = some o) → h'.get? s1.heap.objs.size = some { cls := .type "list", dict := none, data := .seq acc' c', slots := #[] } →
      ItemsOf (fun i v => ∃ t, v = .int (a + i * 1) t) acc' (b - a).toNat → EP X pins σ Q (.ref s1.heap.objs.size) { s1 with heap := h', toks := tk } := fun h' tk acc c' hk e' hi => by
    refine ⟨.ref s1.heap.objs.size, upd H1 s1.heap.objs.size (.lst (rgV a b)), I1.laid hk (Nat.le_refl _) (show ObjOk X.prog X.w _ _ _ (.lst (rgV a b)) from ⟨?_, acc.toList, c', vals_rg hi, ?_⟩), rfl, q _ (I1.hok.fresh (Nat.le_refl _))⟩
    · rw [rgV_length, sizeLine_eq]; omega
    · rw [Array.toArray_toList]; exact e'
  cases sm : Builtin.Range.small a b 1 with
  | true => exact call_list_range (n := (b - a).toNat) (I1.ok.hd hc) hr sm (rangeSize_nat a b) b5 fin
  | false => exact call_list_longrange (n := (b - a).toNat) (I1.ok.hd hc) hr sm (rangeSize_nat a b) b5 fin
end
/-- the numbers from a to below b -/
def opRg (a b : PV) : Option PV := match pI a, pI b with
  | some i, some j => if (j - i).toNat ≤ 2 ^ 24 then some (vNew (rngD i (j - i).toNat)) else none
  | _, _ => none
theorem rg_dat {R : Hp} (i j : Int) : DatAll (Reg R) (rgV i j) (rngD i (j - i).toNat) := by
  have e : rgV i j = (List.range (j - i).toNat).map fun k : Nat => V.int (i + (k : Int)) := by unfold rgV; rfl
  rw [e]
  unfold rngD
  generalize List.range (j - i).toNat = l
  induction l with
  | nil => exact .nil
  | cons k l ih => exact .cons (.int _) ih
theorem opRg_imp {K : PySem.W.Frag} {x y : V} {H : Hp} {Q : VK} (h : rOp K opRg x y H Q) : ∃ i j, x = .int i ∧ y = .int j ∧ (j - i).toNat ≤ 2 ^ 24 ∧ ∀ q, H q = none → Q (.ref q) (upd H q (.lst (rgV i j))) := by
  obtain ⟨R, P, S, a, b, Za, Zb, p, rh, ph, ra, rb, e, k⟩ := h
  unfold opRg at e
  cases ha : pI a with
  | none => rw [ha] at e; cases e
  | some i =>
    cases hb : pI b with
    | none => rw [ha, hb] at e; cases e
    | some j =>
      rw [ha, hb] at e
      simp only at e
      split at e
      · rename_i hl
        cases e
        exact ⟨i, j, pI_rep rh ph ra ha, pI_rep rh ph rb hb, hl, fun q hq => k _ R _ _ (PF.own rh hq) (rep_new (rg_dat i j))⟩
      · cases e
section
variable {X : Cx} {W : WX} {a b : Expr} {fa fb : Es} {p p1 p2 pos : Pos}
theorem ej_lrg1 (hc : X.calm = true) (hg : Gl X "list") (hm : X.mg "list" = none) (hg2 : Gl X "range") (hm2 : X.mg "range" = none) (ha : EJ X W a fa) (na : starEach [a] X.env = (false, eval a X.env) :: starEach [] X.env := by rfl)
    (ne : starEach [.Call (.Name "range" p1) [a] [] p2] X.env = (false, eval (.Call (.Name "range" p1) [a] [] p2) X.env) :: starEach [] X.env := by rfl) :
    EJ X W (.Call (.Name "list" p) [.Call (.Name "range" p1) [a] [] p2] [] pos) (e2 opRg (eC (.int 0)) fa) :=
  PE.imp (pe_listRgU hc hg hm (prg_1 hg2 hm2 ha na) ne) fun σ H Q h => by
    obtain ⟨env, R, P, S, r, sr, hr, post⟩ := e2_imp h
    cases hr
    refine rdE_mono (post (.int 0) R H S NoA sr.stp (Rep.dat (.int 0))) fun y H1 q => ?_
    obtain ⟨i, j, hi, rfl, hl, k⟩ := opRg_imp q
    cases hi
    exact ⟨j, rfl, hl, k⟩
theorem ej_lrg2 (hc : X.calm = true) (hg : Gl X "list") (hm : X.mg "list" = none) (hg2 : Gl X "range") (hm2 : X.mg "range" = none) (ha : EJ X W a fa) (hb : EJ X W b fb) (na : starEach [a, b] X.env = (false, eval a X.env) :: starEach [b] X.env := by rfl)
    (nb : starEach [b] X.env = (false, eval b X.env) :: starEach [] X.env := by rfl) (hp : (backTo p2 (starEach [b] X.env)).any (·.1) = false := by rfl)
    (ne : starEach [.Call (.Name "range" p1) [a, b] [] p2] X.env = (false, eval (.Call (.Name "range" p1) [a, b] [] p2) X.env) :: starEach [] X.env := by rfl) :
    EJ X W (.Call (.Name "list" p) [.Call (.Name "range" p1) [a, b] [] p2] [] pos) (e2 opRg fa fb) :=
  PE.imp (pe_listRgU hc hg hm (prg_2 hg2 hm2 ha hb na nb hp) ne) fun σ H Q h =>
    rdE_mono (e2_imp h) fun x H1 q => rdE_mono q fun y H2 q => by
      obtain ⟨i, j, rfl, rfl, hl, k⟩ := opRg_imp q
      exact ⟨i, j, rfl, rfl, hl, k⟩
end
end VS

set_option Elab.async false
set_option linter.all false
set_option maxRecDepth 100000
/-! Value semantics, 30: sums of tuples. -/
namespace VS
open PySem PySem.Spec PyProof.Rows L2
section
variable {prog : Program} {w : World} {A : Around} {E : Value → Shared → Prop} {s : Shared} {l : Addr} {its : List Value} {ns : List Int} {Q : Value → Shared → Prop}
theorem sum_tup_raw (hh : A.handled = none) (hl : s.heap.IsTuple l its.toArray) (hi : IntsAre its ns)
    (h : ∀ h' tk t', (∀ b o, s.heap.get? b = some o → h'.get? b = some o) → Q (.int ns.sum t') { s with heap := h', toks := tk }) : wpAny (model prog w) A (call (.builtin "sum") [.ref l]) Q E s := by
  obtain ⟨xs, e⟩ := hi.allInts.items
  have hn : numsOf (intItems xs).toList = ns := by rw [← e]; exact hi.numsOf
  rw [nums_intItems] at hn
  rw [e] at hl
  have lt : l < s.heap.objs.size := by obtain ⟨_, e, _⟩ := hl; exact Heap.lt_size e
  refine call_sum_walkG (wpAny_pyIter_tuple hl ?_)
  refine ⟨_, _, _, _, _, _, numAt xs, rfl, Walks.tuple (A := A.in1) hh _ l (Nat.ne_of_lt lt) (intItems xs), ⟨⟨_, Heap.get?_push_size _ rfl, rfl, rfl⟩, hl.at fun o e => Heap.get?_push_of_some _ e⟩, fun b hb => ?_, (fun _ _ => intItems_at), fun h' tk t' hk => ?_⟩
  · show b < (s.heap.push _).objs.size
    rw [Heap.size_push]
    rcases List.mem_cons.mp hb with rfl | hb
    · exact Nat.lt_succ_self _
    · rw [List.mem_singleton.mp hb]; exact Nat.lt_succ_of_lt lt
  · have k := h h' tk t' fun b o e => hk b o (fun hm => Nat.lt_irrefl _ (by rw [List.mem_singleton.mp hm] at e; exact Heap.lt_size e)) (Heap.get?_push_of_some _ e)
    rw [preSum_eq, List.take_of_length_le (by simp [intItems]), hn]
    exact k
end
def rSumT (K : PySem.W.Frag) : List V → Hp → VK → Prop := fun vs H Q => ∃ (a : Addr) (ns : List Int), vs = [V.ref a] ∧ SqT K H a (ns.map V.int) ∧ Q (.int ns.sum) H
theorem cr_sumT {X : Cx} (hc : X.calm = true) : CallR X (.builtin "sum") (rSumT X.K) := by
  intro pins s σ H vs us Q I r h
  obtain ⟨a, ns, rfl, hs, q⟩ := h
  obtain ⟨its, rv, hl, _⟩ := I.tuple hs
  rw [Vals.ref1 r]
  exact sum_tup_raw (I.ok.hd hc) hl rv.ints fun h' tk t' hk => ⟨.int _, H, I.kept hk, ⟨_, rfl⟩, q⟩
/-- a tuple of whole numbers -/
def pTi (p : PV) : Option (List Int) := (pTu p).bind allI
def bSum2 (p : PV) : Option PV := match pTi p with
  | some ns => some (vInt ns.sum)
  | none => bSum p
theorem cl_sum2 {X : Cx} (hc : X.calm = true) : CallK X (.builtin "sum") (on1 bSum2) := callK1 (CallR.or (cr_sum hc) (cr_sumT hc)) fun {R P H S Z p q x Q} rh ph ra e k => by
  unfold bSum2 at e
  split at e
  · rename_i ns ht
    cases e
    refine .inr ?_
    unfold pTi at ht
    cases h : pTu p with
    | none => rw [h] at ht; cases ht
    | some ds =>
      rw [h] at ht
      obtain ⟨a, vs, rfl, h1, h2⟩ := pTu_rep ph ra h
      exact ⟨a, ns, rfl, by rw [← allI_rep h2 ht]; exact SqT.of (rh.ex h1 rfl), k _ R H NoA (PF.refl rh) (Rep.dat (.int _))⟩
  · refine .inl ?_
    unfold bSum at e
    cases h : pIs p with
    | none => rw [h] at e; cases e
    | some bs =>
      rw [h] at e; cases e
      obtain ⟨a, rfl, hs⟩ := pIs_rep rh ph ra h
      exact ⟨a, bs, rfl, hs, k _ R H NoA (PF.refl rh) (Rep.dat (.int _))⟩
end VS

set_option Elab.async false
set_option linter.all false
set_option maxRecDepth 100000
/-! Value semantics, 31: wishes of methods; plain facts about tuples of whole numbers. -/
namespace VS
open PySem PySem.Spec
def kMb (op : List PV → Option PV) (a : PV) (q : Bool) (Q : Er → Prop) : Arx → Prop
  | .ok q2 l e2 => (a.held || q2) = true ∧ wO (valsA l) fun ps => wO (op (a :: ps)) fun p => Q (.ok (q && q2) p e2)
  | .x ex e => Q (.x ex e)
def kM (k : T → Bool) (op : List PV → Option PV) (g : As) (Q : Er → Prop) : Er → Prop
  | .ok q a e1 => k a.tr = true ∧ WA g e1 (kMb op a q Q)
  | .x ex e => Q (.x ex e)
theorem w_m {k : T → Bool} {op : List PV → Option PV} {fo : Es} {g : As} {env : List T} {Q : Er → Prop} : WE (eM k op fo g) env Q = WE fo env (kM k op g Q) := by
  unfold eM
  show wO (match fo env with | some (.ok q a e1) => _ | r => r) Q = wO (fo env) _
  cases fo env with
  | none => simp only [wO_none]
  | some r => cases r with
    | x ex e => simp only [wO_some, kM]
    | ok q a e1 =>
      simp only [wO_some, kM, wO_ite]
      congr 1
      show wO (match g e1 with | some (.ok q2 l e2) => _ | some (.x ex e) => _ | none => none) Q = wO (g e1) _
      cases g e1 with
      | none => simp only [wO_none]
      | some r => cases r with
        | x ex e => simp only [wO_some, kMb]
        | ok q2 l e2 =>
          simp only [wO_some, kMb, wO_ite, wO_map]
          congr 1
          cases valsA l with
          | none => simp only [Option.bind_none, wO_none]
          | some ps => simp only [Option.bind_some, wO_some]
def tupI (t : List Int) : D := .tuple (t.map .int)
theorem dep_tupI (t : List Int) : (tupI t).depth = 1 := by
  unfold tupI
  rw [PyData.depth, depthAll_ints]
theorem canLay_tupI (t : List Int) : (tupI t).canLay0 = true := by
  unfold tupI
  rw [PyData.canLay0]; exact canInts t
theorem canTups : ∀ ts : List (List Int), PyData.canLayAll0 (ts.map tupI) = true
  | [] => by simp [PyData.canLayAll0]
  | t :: ts => by rw [List.map_cons, PyData.canLayAll0, canTups ts, canLay_tupI]; rfl
theorem depTups : ∀ ts : List (List Int), PyData.depthAll (ts.map tupI) ≤ 1
  | [] => by simp [PyData.depthAll]
  | t :: ts => by rw [List.map_cons, PyData.depthAll, dep_tupI]; exact Nat.max_le.mpr ⟨Nat.le_refl _, depTups ts⟩
theorem sh_tups (ts : List (List Int)) : SeqAt.shaped (.list (ts.map tupI)) = true := by
  have := depTups ts
  simp [SeqAt.shaped, PyData.canLay0, canTups, PyData.depth]
  omega
theorem sh_tupI (t : List Int) : SeqAt.shaped (tupI t) = true := by
  simp [SeqAt.shaped, canLay_tupI, dep_tupI]
theorem eqv_lnil (ds : List D) : PyData.eqv (.list ds) (.list []) = decide (ds = []) := by
  cases ds <;> simp [PyData.eqv, PyData.eqvAll]
theorem eqv_tnil (t : List Int) : PyData.eqv (tupI t) (.tuple []) = decide (t = []) := by
  cases t <;> simp [tupI, PyData.eqv, PyData.eqvAll]
theorem sh_tnil : SeqAt.shaped (.tuple []) = true := by simp [SeqAt.shaped, PyData.canLay0, PyData.canLayAll0, PyData.depth, PyData.depthAll]
theorem at_last {α : Type} {xs : List α} (h : xs ≠ []) : L2.atI xs (-1) = some (xs.getLast h) := by
  have hl : 0 < xs.length := List.length_pos_iff.mpr h
  unfold L2.atI L2.ixN
  have e : ¬ (0 : Int) ≤ -1 := by decide
  simp only [e, false_and, if_false]
  rw [if_pos (by omega)]
  show xs[((xs.length : Int) + -1).toNat]? = _
  rw [show ((xs.length : Int) + -1).toNat = xs.length - 1 by omega, List.getElem?_eq_getElem (by omega), List.getLast_eq_getElem]
/-- an exception of the class at C is what 'except W' names -/
theorem exm_mk {K : PySem.W.Frag} {C W : Addr} (h1 : PySem.W.subIn K (.ref W) (.type "BaseException") = some true) (h2 : PySem.W.isClsIn K W = true) (h3 : PySem.W.typeIn K (.ref W) = some (.type "type")) (h4 : PySem.W.subIn K (.ref C) (.ref W) = some true) :
    PySem.W.exmOne K (.ref C) (.ref W) = some true := by
  have z2 : (PySem.W.clsIn K W).isSome = true := h2
  unfold PySem.W.exmOne PySem.W.kitCls
  rw [h1]
  simp only [beq_self_eq_true, if_true, z2, h3, Bool.and_self]
  exact h4
end VS

set_option Elab.async false
set_option linter.all false
set_option maxRecDepth 100000
set_option maxHeartbeats 0
namespace k62
open PySem PySem.Spec PyProof.Rows L2 VS
def top (i : Nat) : Stmt := PySem.Challenge.pw_latewood_k62_bounds_of_how_many.main.body.getD i (.Pass ⟨0, 0, 0, 0⟩)
/-! least_over -/
abbrev s_least_over : Stmt := top 22
def g_least_over : Ss := sSeq (sAsg (gTp [gNm 2, gNm 3, gNm 4, gNm 5]) (eVar 0)) (sSeq (sIf (e2 opLe (eVar 1) (eVar 3)) (sRet (eMv 2)) (sNil)) (sSeq (sIf (e2 opGt (eVar 1) (eVar 4)) (sRet (eC (.int 0))) (sNil)) (sSeq (sSet 6 (e2 opSub (eVar 5) (e2 opMul (eVar 2) (e2 opSub (eVar 1) (eC (.int 1)))))) (sRet (eB (on2 bMax2) (aCons (eC (.int 0)) (aCons (e2 opSub (eC (.int 0)) (e2 opFdiv (e2 opSub (eC (.int 0)) (eVar 6)) (e2 opAdd (e2 opSub (eVar 4) (eVar 1)) (eC (.int 1))))) (aNil))))))))
def F_least_over : Fs := fnF 7 2 [0, 1] g_least_over
theorem sc_least_over : FnScope ["known", "number", "many", "low", "high", "total", "left"] ["known", "number"] (defScope s_least_over) := ⟨rfl, rfl, rfl, by decide +kernel, rfl, by decide +kernel, by decide +kernel⟩
theorem fn_least_over {P : Program} {w : World} {K : PySem.W.Frag} {mg : Str → Option Value} {base : Heap} (z_max : mg "max" = none) {f : Addr} {oc : Value} {od an : Option Addr} {osl : Array (Option Value)} {kV doc pm cdv ct : Value}
    (l : K.lookup f = some ⟨oc, od, .func (PySem.W.fnOf "least_over" "least_over" (defArgs s_least_over) (defBody s_least_over) (defScope s_least_over) .none kV doc pm an cdv ct), osl⟩) (c : PySem.W.codeIn K cdv "least_over" = true) :
    FnG P w K mg base 1 f (PySem.W.fnOf "least_over" "least_over" (defArgs s_least_over) (defBody s_least_over) (defScope s_least_over) .none kV doc pm an cdv ct) ["known", "number"] F_least_over :=
  fn_g l c sc_least_over fun A outer s H E hr hg => by
    have nd := sc_least_over.nd
    have tk := tk_def (P := P) (w := w) (K := K) (mg := mg) (base := base) (N := ["known", "number", "many", "low", "high", "total", "left"]) (qual := "least_over") (scope := defScope s_least_over) (f := f) (cd := cdv) (A := A) (outer := outer) (s := s) (H := H) (E := E)
    have po := po_def (P := P) (w := w) (K := K) (mg := mg) (base := base) (N := ["known", "number", "many", "low", "high", "total", "left"]) (qual := "least_over") (scope := defScope s_least_over) (f := f) (cd := cdv) (A := A) (outer := outer) (s := s) (H := H) (E := E)
    unfold g_least_over
    exact sjs_cons (sj_asg (ej_var 0) (gj_tp rfl (gsj_cons (gj_nm nd) (gsj_cons (gj_nm nd) (gsj_cons (gj_nm nd) (gsj_cons (gj_nm nd) (gsj_nil))))))) (sjs_cons (sj_if (tj_cmp ok_le (ej_var 1) (ej_var 3)) (sjs_one (sj_ret (ej_mv 2))) (sjs_nil)) (sjs_cons (sj_if (tj_cmp ok_gt (ej_var 1) (ej_var 4)) (sjs_one (sj_ret (ej_int))) (sjs_nil)) (sjs_cons (sj_set nd (ej_op ok_sub (ej_var 5) (ej_op ok_mul (ej_var 2) (ej_op ok_sub (ej_var 1) (ej_int))))) (sjs_one (sj_ret (ej_callB (cl_max2 rfl) (by rfl) z_max (by rfl) (aj_cons (ej_int) (aj_cons (ej_op ok_sub (ej_int) (ej_op ok_fdiv (ej_op ok_sub (ej_int) (ej_var 6)) (ej_op ok_add (ej_op ok_sub (ej_var 4) (ej_var 1)) (ej_int)))) (aj_nil)))))))))
theorem ok_least_over {P : Program} {w : World} {K : PySem.W.Frag} {mg : Str → Option Value} {base : Heap} (z_max : mg "max" = none) {f : Addr} {oc : Value} {od an : Option Addr} {osl : Array (Option Value)} {kV doc pm cdv ct : Value}
    (l : K.lookup f = some ⟨oc, od, .func (PySem.W.fnOf "least_over" "least_over" (defArgs s_least_over) (defBody s_least_over) (defScope s_least_over) .none kV doc pm an cdv ct), osl⟩) (c : PySem.W.codeIn K cdv "least_over" = true) (kp : PySem.W.keepIn K (.ref f) = true) (hm : mg "least_over" = some (.ref f)) (hn : Named K "least_over" f) : Dep P w K mg base 1 "least_over" ["known", "number"] F_least_over :=
  dep_mk l c kp hm hn (fun _ _ _ _ _ _ us hl => match us, hl with | [_, _], _ => rfl) (fn_least_over z_max l c)
/-! meant -/
abbrev s_meant : Stmt := top 20
def g_meant : Ss := sSeq (sIf (e2 opIs (eVar 3) (eC .none)) (sSet 3 (eIf (eVar 4) (e2 opMul (eVar 0) (eVar 2)) (e2 opMul (eVar 0) (eVar 1)))) (sNil)) (sSeq (sIf (eNot (eCh opLe opLe (e2 opMul (eVar 0) (eVar 1)) (eVar 3) (e2 opMul (eVar 0) (eVar 2)))) (sRaise "NoDealing") (sNil)) (sRet (eDisp mkTup (aCons (eVar 0) (aCons (eVar 1) (aCons (eVar 2) (aCons (eVar 3) (aNil))))))))
def F_meant : Fs := fnF 5 5 [0, 1, 2, 4] g_meant
theorem sc_meant : FnScope ["many", "low", "high", "total", "greatest"] ["many", "low", "high", "total", "greatest"] (defScope s_meant) := ⟨rfl, rfl, rfl, by decide +kernel, rfl, by decide +kernel, by decide +kernel⟩
theorem fn_meant {P : Program} {w : World} {K : PySem.W.Frag} {mg : Str → Option Value} {base : Heap} {c_NoDealing : Addr} (b_NoDealing : PySem.W.subIn K (.ref c_NoDealing) (.type "BaseException") = some true) (g_NoDealing : mg "NoDealing" = some (.ref c_NoDealing)) (k_NoDealing : PySem.W.keepIn K (.ref c_NoDealing) = true) (n_NoDealing : Named K "NoDealing" c_NoDealing) (t_NoDealing : PySem.W.typeIn K (.ref c_NoDealing) = some (.type "type")) (x_NoDealing : PySem.W.excIn K c_NoDealing [.type "ValueError", .type "Exception", .type "BaseException", .type "object"] "ValueError.__new__" = true) {f : Addr} {oc : Value} {od an : Option Addr} {osl : Array (Option Value)} {kV doc pm cdv ct : Value}
    (l : K.lookup f = some ⟨oc, od, .func (PySem.W.fnOf "meant" "meant" (defArgs s_meant) (defBody s_meant) (defScope s_meant) .none kV doc pm an cdv ct), osl⟩) (c : PySem.W.codeIn K cdv "meant" = true) :
    FnG P w K mg base 1 f (PySem.W.fnOf "meant" "meant" (defArgs s_meant) (defBody s_meant) (defScope s_meant) .none kV doc pm an cdv ct) ["many", "low", "high", "total", "greatest"] F_meant :=
  fn_g l c sc_meant fun A outer s H E hr hg => by
    have nd := sc_meant.nd
    have tk := tk_def (P := P) (w := w) (K := K) (mg := mg) (base := base) (N := ["many", "low", "high", "total", "greatest"]) (qual := "meant") (scope := defScope s_meant) (f := f) (cd := cdv) (A := A) (outer := outer) (s := s) (H := H) (E := E)
    have po := po_def (P := P) (w := w) (K := K) (mg := mg) (base := base) (N := ["many", "low", "high", "total", "greatest"]) (qual := "meant") (scope := defScope s_meant) (f := f) (cd := cdv) (A := A) (outer := outer) (s := s) (H := H) (E := E)
    unfold g_meant
    exact sjs_cons (sj_if (tj_cmp ok_is (ej_var 3) (ej_non)) (sjs_one (sj_set nd (ej_if (tj_val (ej_var 4)) (ej_op ok_mul (ej_var 0) (ej_var 2)) (ej_op ok_mul (ej_var 0) (ej_var 1))))) (sjs_nil)) (sjs_cons (sj_if (tj_not (tj_chain ok_le ok_le (ej_op ok_mul (ej_var 0) (ej_var 1)) (ej_var 3) (ej_op ok_mul (ej_var 0) (ej_var 2)))) (sjs_one (sj_raise rfl tk n_NoDealing (pmk_own PySem.F.excBase_ValueError x_NoDealing g_NoDealing k_NoDealing (raises_own b_NoDealing t_NoDealing) (by rfl)))) (sjs_nil)) (sjs_one (sj_ret (ej_tup (aj_cons (ej_var 0) (aj_cons (ej_var 1) (aj_cons (ej_var 2) (aj_cons (ej_var 3) (aj_nil)))))))))
theorem ok_meant {P : Program} {w : World} {K : PySem.W.Frag} {mg : Str → Option Value} {base : Heap} {c_NoDealing : Addr} (b_NoDealing : PySem.W.subIn K (.ref c_NoDealing) (.type "BaseException") = some true) (g_NoDealing : mg "NoDealing" = some (.ref c_NoDealing)) (k_NoDealing : PySem.W.keepIn K (.ref c_NoDealing) = true) (n_NoDealing : Named K "NoDealing" c_NoDealing) (t_NoDealing : PySem.W.typeIn K (.ref c_NoDealing) = some (.type "type")) (x_NoDealing : PySem.W.excIn K c_NoDealing [.type "ValueError", .type "Exception", .type "BaseException", .type "object"] "ValueError.__new__" = true) {f : Addr} {oc : Value} {od an : Option Addr} {osl : Array (Option Value)} {kV doc pm cdv ct : Value}
    (l : K.lookup f = some ⟨oc, od, .func (PySem.W.fnOf "meant" "meant" (defArgs s_meant) (defBody s_meant) (defScope s_meant) .none kV doc pm an cdv ct), osl⟩) (c : PySem.W.codeIn K cdv "meant" = true) (kp : PySem.W.keepIn K (.ref f) = true) (hm : mg "meant" = some (.ref f)) (hn : Named K "meant" f) : Dep P w K mg base 1 "meant" ["many", "low", "high", "total", "greatest"] F_meant :=
  dep_mk l c kp hm hn (fun _ _ _ _ _ _ us hl => match us, hl with | [_, _, _, _, _], _ => rfl) (fn_meant b_NoDealing g_NoDealing k_NoDealing n_NoDealing t_NoDealing x_NoDealing l c)
/-! about -/
abbrev s_about : Stmt := top 21
def g_about : Ss := sSeq (sAsg (gTp [gNm 2, gNm 3, gNm 4, gNm 5]) (eVar 1)) (sRet (eDisp mkTup (aCons (eFz (eComp (iOf pL (eVar 0)) (gNm 6) (cYes) (e2 opSub (eC (.int 0)) (eVar 6)) [6])) (aCons (eDisp mkTup (aCons (eVar 2) (aCons (e2 opSub (eC (.int 0)) (eVar 4)) (aCons (e2 opSub (eC (.int 0)) (eVar 3)) (aCons (e2 opSub (eC (.int 0)) (eVar 5)) (aNil)))))) (aNil)))))
def F_about : Fs := fnF 7 2 [0, 1] g_about
theorem sc_about : FnScope ["kept", "known", "many", "low", "high", "total", "value"] ["kept", "known"] (defScope s_about) := ⟨rfl, rfl, rfl, by decide +kernel, rfl, by decide +kernel, by decide +kernel⟩
theorem fn_about {P : Program} {w : World} {K : PySem.W.Frag} {mg : Str → Option Value} {base : Heap} {f : Addr} {oc : Value} {od an : Option Addr} {osl : Array (Option Value)} {kV doc pm cdv ct : Value}
    (l : K.lookup f = some ⟨oc, od, .func (PySem.W.fnOf "about" "about" (defArgs s_about) (defBody s_about) (defScope s_about) .none kV doc pm an cdv ct), osl⟩) (c : PySem.W.codeIn K cdv "about" = true) :
    FnG P w K mg base 1 f (PySem.W.fnOf "about" "about" (defArgs s_about) (defBody s_about) (defScope s_about) .none kV doc pm an cdv ct) ["kept", "known"] F_about :=
  fn_g l c sc_about fun A outer s H E hr hg => by
    have nd := sc_about.nd
    have tk := tk_def (P := P) (w := w) (K := K) (mg := mg) (base := base) (N := ["kept", "known", "many", "low", "high", "total", "value"]) (qual := "about") (scope := defScope s_about) (f := f) (cd := cdv) (A := A) (outer := outer) (s := s) (H := H) (E := E)
    have po := po_def (P := P) (w := w) (K := K) (mg := mg) (base := base) (N := ["kept", "known", "many", "low", "high", "total", "value"]) (qual := "about") (scope := defScope s_about) (f := f) (cd := cdv) (A := A) (outer := outer) (s := s) (H := H) (E := E)
    unfold g_about
    exact sjs_cons (sj_asg (ej_var 1) (gj_tp rfl (gsj_cons (gj_nm nd) (gsj_cons (gj_nm nd) (gsj_cons (gj_nm nd) (gsj_cons (gj_nm nd) (gsj_nil))))))) (sjs_one (sj_ret (ej_tup (aj_cons (ej_fz (ej_comp (B := [0, 1, 2, 3, 4, 5]) (own := [("value", 6)]) rfl nd (cov_of (by kernel_rfl)) (ij_list (ej_var 0)) (blkOk_by (by kernel_rfl)) (fun _ _ _ _ _ => gj_nm nd) (fun _ _ _ _ _ => (cj_nil)) (fun _ _ _ _ _ => (ej_op ok_sub (ej_int) (ej_var 6))))) (aj_cons (ej_tup (aj_cons (ej_var 2) (aj_cons (ej_op ok_sub (ej_int) (ej_var 4)) (aj_cons (ej_op ok_sub (ej_int) (ej_var 3)) (aj_cons (ej_op ok_sub (ej_int) (ej_var 5)) (aj_nil)))))) (aj_nil))))))
theorem ok_about {P : Program} {w : World} {K : PySem.W.Frag} {mg : Str → Option Value} {base : Heap} {f : Addr} {oc : Value} {od an : Option Addr} {osl : Array (Option Value)} {kV doc pm cdv ct : Value}
    (l : K.lookup f = some ⟨oc, od, .func (PySem.W.fnOf "about" "about" (defArgs s_about) (defBody s_about) (defScope s_about) .none kV doc pm an cdv ct), osl⟩) (c : PySem.W.codeIn K cdv "about" = true) (kp : PySem.W.keepIn K (.ref f) = true) (hm : mg "about" = some (.ref f)) (hn : Named K "about" f) : Dep P w K mg base 1 "about" ["kept", "known"] F_about :=
  dep_mk l c kp hm hn (fun _ _ _ _ _ _ us hl => match us, hl with | [_, _], _ => rfl) (fn_about l c)
/-! over_bounds -/
abbrev s_over_bounds : Stmt := top 23
def g_over_bounds : Ss := sSeq (sSet 6 (eB (on1 bLen) (aCons (eComp (iOf pL (eVar 0)) (gNm 9) (e2 opGe (eVar 9) (eVar 5)) (eVar 9) [9]) (aNil)))) (sSeq (sSet 7 (eFz (eCall F_least_over (aCons (eFz (eCall F_meant (aCons (eVar 1) (aCons (eVar 2) (aCons (eVar 3) (aCons (eVar 4) (aCons (eC (.bool false)) (aNil)))))))) (aCons (eVar 5) (aNil)))))) (sSeq (sSet 8 (e2 opIx (eCall F_about (aCons (eFz (eDisp .lst (aNil))) (aCons (eFz (eCall F_meant (aCons (eVar 1) (aCons (eVar 2) (aCons (eVar 3) (aCons (eVar 4) (aCons (eC (.bool true)) (aNil)))))))) (aNil)))) (eC (.int 1)))) (sRet (eDisp mkTup (aCons (eFz (e2 opAdd (eVar 6) (eVar 7))) (aCons (e2 opSub (e2 opAdd (eVar 6) (eVar 1)) (eCall F_least_over (aCons (eVar 8) (aCons (e2 opSub (eC (.int 1)) (eVar 5)) (aNil))))) (aNil)))))))
def F_over_bounds : Fs := fnF 10 6 [0, 1, 2, 3, 4, 5] g_over_bounds
theorem sc_over_bounds : FnScope ["kept", "many", "low", "high", "total", "number", "own", "least", "known", "value"] ["kept", "many", "low", "high", "total", "number"] (defScope s_over_bounds) := ⟨rfl, rfl, rfl, by decide +kernel, rfl, by decide +kernel, by decide +kernel⟩
theorem fn_over_bounds {P : Program} {w : World} {K : PySem.W.Frag} {mg : Str → Option Value} {base : Heap} (D_least_over : Dep P w K mg base 1 "least_over" ["known", "number"] F_least_over) (D_meant : Dep P w K mg base 1 "meant" ["many", "low", "high", "total", "greatest"] F_meant) (D_about : Dep P w K mg base 1 "about" ["kept", "known"] F_about) (z_len : mg "len" = none) {f : Addr} {oc : Value} {od an : Option Addr} {osl : Array (Option Value)} {kV doc pm cdv ct : Value}
    (l : K.lookup f = some ⟨oc, od, .func (PySem.W.fnOf "over_bounds" "over_bounds" (defArgs s_over_bounds) (defBody s_over_bounds) (defScope s_over_bounds) .none kV doc pm an cdv ct), osl⟩) (c : PySem.W.codeIn K cdv "over_bounds" = true) :
    FnG P w K mg base 2 f (PySem.W.fnOf "over_bounds" "over_bounds" (defArgs s_over_bounds) (defBody s_over_bounds) (defScope s_over_bounds) .none kV doc pm an cdv ct) ["kept", "many", "low", "high", "total", "number"] F_over_bounds :=
  fn_g l c sc_over_bounds fun A outer s H E hr hg => by
    have nd := sc_over_bounds.nd
    have tk := tk_def (P := P) (w := w) (K := K) (mg := mg) (base := base) (N := ["kept", "many", "low", "high", "total", "number", "own", "least", "known", "value"]) (qual := "over_bounds") (scope := defScope s_over_bounds) (f := f) (cd := cdv) (A := A) (outer := outer) (s := s) (H := H) (E := E)
    have po := po_def (P := P) (w := w) (K := K) (mg := mg) (base := base) (N := ["kept", "many", "low", "high", "total", "number", "own", "least", "known", "value"]) (qual := "over_bounds") (scope := defScope s_over_bounds) (f := f) (cd := cdv) (A := A) (outer := outer) (s := s) (H := H) (E := E)
    have d_least_over := D_least_over.mono (k := 1) (by decide)
    have d_meant := D_meant.mono (k := 1) (by decide)
    have d_about := D_about.mono (k := 1) (by decide)
    unfold g_over_bounds
    exact sjs_cons (sj_set nd (ej_callB (cl_len) (by rfl) z_len (by rfl) (aj_cons (ej_comp (B := [0, 1, 2, 3, 4, 5, 6, 7, 8]) (own := [("value", 9)]) rfl nd (cov_of (by kernel_rfl)) (ij_list (ej_var 0)) (blkOk_by (by kernel_rfl)) (fun _ _ _ _ _ => gj_nm nd) (fun _ _ _ _ _ => (cj_one (tj_cmp ok_ge (ej_var 9) (ej_var 5)))) (fun _ _ _ _ _ => (ej_var 9))) (aj_nil)))) (sjs_cons (sj_set nd (ej_fz (ej_dep d_least_over hr hg tk (aj_cons (ej_fz (ej_dep d_meant hr hg tk (aj_cons (ej_var 1) (aj_cons (ej_var 2) (aj_cons (ej_var 3) (aj_cons (ej_var 4) (aj_cons (ej_bl) (aj_nil)))))))) (aj_cons (ej_var 5) (aj_nil)))))) (sjs_cons (sj_set nd (ej_ix (ej_dep d_about hr hg tk (aj_cons (ej_fz (ej_lst (aj_nil))) (aj_cons (ej_fz (ej_dep d_meant hr hg tk (aj_cons (ej_var 1) (aj_cons (ej_var 2) (aj_cons (ej_var 3) (aj_cons (ej_var 4) (aj_cons (ej_bl) (aj_nil)))))))) (aj_nil)))) (ej_int))) (sjs_one (sj_ret (ej_tup (aj_cons (ej_fz (ej_op ok_add (ej_var 6) (ej_var 7))) (aj_cons (ej_op ok_sub (ej_op ok_add (ej_var 6) (ej_var 1)) (ej_dep d_least_over hr hg tk (aj_cons (ej_var 8) (aj_cons (ej_op ok_sub (ej_int) (ej_var 5)) (aj_nil))))) (aj_nil))))))))
theorem ok_over_bounds {P : Program} {w : World} {K : PySem.W.Frag} {mg : Str → Option Value} {base : Heap} (D_least_over : Dep P w K mg base 1 "least_over" ["known", "number"] F_least_over) (D_meant : Dep P w K mg base 1 "meant" ["many", "low", "high", "total", "greatest"] F_meant) (D_about : Dep P w K mg base 1 "about" ["kept", "known"] F_about) (z_len : mg "len" = none) {f : Addr} {oc : Value} {od an : Option Addr} {osl : Array (Option Value)} {kV doc pm cdv ct : Value}
    (l : K.lookup f = some ⟨oc, od, .func (PySem.W.fnOf "over_bounds" "over_bounds" (defArgs s_over_bounds) (defBody s_over_bounds) (defScope s_over_bounds) .none kV doc pm an cdv ct), osl⟩) (c : PySem.W.codeIn K cdv "over_bounds" = true) (kp : PySem.W.keepIn K (.ref f) = true) (hm : mg "over_bounds" = some (.ref f)) (hn : Named K "over_bounds" f) : Dep P w K mg base 2 "over_bounds" ["kept", "many", "low", "high", "total", "number"] F_over_bounds :=
  dep_mk l c kp hm hn (fun _ _ _ _ _ _ us hl => match us, hl with | [_, _, _, _, _, _], _ => rfl) (fn_over_bounds D_least_over D_meant D_about z_len l c)
/-! _law_e_pen -/
abbrev s_law_e_pen : Stmt := top 25
def g_law_e_pen : Ss := sRet (eDisp .lst (aCons (eFz (eB (on1 bList) (aCons (eSl (eVar 0) none (some (eC (.int 60)))) (aNil)))) (aCons (eC (.int 0)) (aCons (eC (.int 0)) (aNil)))))
def F_law_e_pen : Fs := fnF 1 1 [0] g_law_e_pen
theorem sc_law_e_pen : FnScope ["script"] ["script"] (defScope s_law_e_pen) := ⟨rfl, rfl, rfl, by decide +kernel, rfl, by decide +kernel, by decide +kernel⟩
theorem fn_law_e_pen {P : Program} {w : World} {K : PySem.W.Frag} {mg : Str → Option Value} {base : Heap} (z_list : mg "list" = none) {f : Addr} {oc : Value} {od an : Option Addr} {osl : Array (Option Value)} {kV doc pm cdv ct : Value}
    (l : K.lookup f = some ⟨oc, od, .func (PySem.W.fnOf "_law_e_pen" "_law_e_pen" (defArgs s_law_e_pen) (defBody s_law_e_pen) (defScope s_law_e_pen) .none kV doc pm an cdv ct), osl⟩) (c : PySem.W.codeIn K cdv "_law_e_pen" = true) :
    FnG P w K mg base 1 f (PySem.W.fnOf "_law_e_pen" "_law_e_pen" (defArgs s_law_e_pen) (defBody s_law_e_pen) (defScope s_law_e_pen) .none kV doc pm an cdv ct) ["script"] F_law_e_pen :=
  fn_g l c sc_law_e_pen fun A outer s H E hr hg => by
    have nd := sc_law_e_pen.nd
    have tk := tk_def (P := P) (w := w) (K := K) (mg := mg) (base := base) (N := ["script"]) (qual := "_law_e_pen") (scope := defScope s_law_e_pen) (f := f) (cd := cdv) (A := A) (outer := outer) (s := s) (H := H) (E := E)
    have po := po_def (P := P) (w := w) (K := K) (mg := mg) (base := base) (N := ["script"]) (qual := "_law_e_pen") (scope := defScope s_law_e_pen) (f := f) (cd := cdv) (A := A) (outer := outer) (s := s) (H := H) (E := E)
    unfold g_law_e_pen
    exact sjs_one (sj_ret (ej_lst (aj_cons (ej_fz (ej_callTy (cl_list) (by rfl) z_list (by rfl) (aj_cons (ej_slT (ej_var 0) (ej_int)) (aj_nil)))) (aj_cons (ej_int) (aj_cons (ej_int) (aj_nil))))))
theorem ok_law_e_pen {P : Program} {w : World} {K : PySem.W.Frag} {mg : Str → Option Value} {base : Heap} (z_list : mg "list" = none) {f : Addr} {oc : Value} {od an : Option Addr} {osl : Array (Option Value)} {kV doc pm cdv ct : Value}
    (l : K.lookup f = some ⟨oc, od, .func (PySem.W.fnOf "_law_e_pen" "_law_e_pen" (defArgs s_law_e_pen) (defBody s_law_e_pen) (defScope s_law_e_pen) .none kV doc pm an cdv ct), osl⟩) (c : PySem.W.codeIn K cdv "_law_e_pen" = true) (kp : PySem.W.keepIn K (.ref f) = true) (hm : mg "_law_e_pen" = some (.ref f)) (hn : Named K "_law_e_pen" f) : Dep P w K mg base 1 "_law_e_pen" ["script"] F_law_e_pen :=
  dep_mk l c kp hm hn (fun _ _ _ _ _ _ us hl => match us, hl with | [_], _ => rfl) (fn_law_e_pen z_list l c)
/-! _law_e_fresh -/
abbrev s_law_e_fresh : Stmt := top 26
def g_law_e_fresh : Ss := sSeq (sSet 1 (e2 opIx (eVar 0) (eC (.int 1)))) (sSeq (sSto 0 stL (eC (.int 1)) (e2 opAdd (eVar 1) (eC (.int 1)))) (sSeq (sSet 2 (eC (.int 0))) (sSeq (sIf (e2 opNe (e2 opIx (eVar 0) (eC (.int 0))) (eDisp .lst (aNil))) (sSet 2 (e2 opFdiv (e2 opIx (e2 opIx (eVar 0) (eC (.int 0))) (e2 opMod (e2 opMul (eVar 1) (eC (.int 7))) (eB (on1 bLen) (aCons (e2 opIx (eVar 0) (eC (.int 0))) (aNil))))) (e2 opAdd (eC (.int 1)) (e2 opFdiv (eVar 1) (eB (on1 bLen) (aCons (e2 opIx (eVar 0) (eC (.int 0))) (aNil))))))) (sNil)) (sSeq (sIf (e2 opLt (eVar 1) (eB (on1 bLen) (aCons (e2 opIx (eVar 0) (eC (.int 0))) (aNil)))) (sSet 2 (e2 opIx (e2 opIx (eVar 0) (eC (.int 0))) (eVar 1))) (sNil)) (sSeq (sIf (e2 opGe (eVar 2) (e2 opPow (eC (.int 10)) (eC (.int 18)))) (sRet (eMv 2)) (sNil)) (sSeq (sSet 3 (e2 opIx (eDisp .lst (aCons (eC (.int 2147483647)) (aCons (eC (.int 2147483629)) (aCons (eC (.int 2147483587)) (aCons (eC (.int 2147483579)) (aCons (eC (.int 2147483563)) (aCons (eC (.int 2147483549)) (aCons (eC (.int 2147483543)) (aNil))))))))) (e2 opMod (eVar 1) (eC (.int 7))))) (sSeq (sSet 4 (e2 opIx (eDisp .lst (aCons (eC (.int 2147483497)) (aCons (eC (.int 2147483489)) (aCons (eC (.int 2147483477)) (aCons (eC (.int 2147483423)) (aCons (eC (.int 2147483399)) (aNil))))))) (e2 opMod (eVar 1) (eC (.int 5))))) (sSeq (sSet 5 (e2 opMod (e2 opPow (e2 opAdd (e2 opAdd (e2 opMod (eVar 2) (eVar 3)) (e2 opMul (eC (.int 31)) (eVar 1))) (eC (.int 5))) (eC (.int 5))) (eVar 3))) (sSeq (sSet 6 (e2 opMod (e2 opPow (e2 opAdd (e2 opAdd (eVar 5) (e2 opMod (eVar 2) (eVar 4))) (e2 opMul (eVar 1) (eVar 1))) (eC (.int 3))) (eVar 4))) (sRet (e2 opAdd (e2 opMul (e2 opAdd (eVar 5) (eC (.int 3))) (eVar 4)) (eVar 6))))))))))))
def F_law_e_fresh : Fs := fnF 7 1 [0] g_law_e_fresh
theorem sc_law_e_fresh : FnScope ["pen", "at", "cell", "one", "two", "mixed", "other"] ["pen"] (defScope s_law_e_fresh) := ⟨rfl, rfl, rfl, by decide +kernel, rfl, by decide +kernel, by decide +kernel⟩
theorem fn_law_e_fresh {P : Program} {w : World} {K : PySem.W.Frag} {mg : Str → Option Value} {base : Heap} (z_len : mg "len" = none) {f : Addr} {oc : Value} {od an : Option Addr} {osl : Array (Option Value)} {kV doc pm cdv ct : Value}
    (l : K.lookup f = some ⟨oc, od, .func (PySem.W.fnOf "_law_e_fresh" "_law_e_fresh" (defArgs s_law_e_fresh) (defBody s_law_e_fresh) (defScope s_law_e_fresh) .none kV doc pm an cdv ct), osl⟩) (c : PySem.W.codeIn K cdv "_law_e_fresh" = true) :
    FnG P w K mg base 1 f (PySem.W.fnOf "_law_e_fresh" "_law_e_fresh" (defArgs s_law_e_fresh) (defBody s_law_e_fresh) (defScope s_law_e_fresh) .none kV doc pm an cdv ct) ["pen"] F_law_e_fresh :=
  fn_g l c sc_law_e_fresh fun A outer s H E hr hg => by
    have nd := sc_law_e_fresh.nd
    have tk := tk_def (P := P) (w := w) (K := K) (mg := mg) (base := base) (N := ["pen", "at", "cell", "one", "two", "mixed", "other"]) (qual := "_law_e_fresh") (scope := defScope s_law_e_fresh) (f := f) (cd := cdv) (A := A) (outer := outer) (s := s) (H := H) (E := E)
    have po := po_def (P := P) (w := w) (K := K) (mg := mg) (base := base) (N := ["pen", "at", "cell", "one", "two", "mixed", "other"]) (qual := "_law_e_fresh") (scope := defScope s_law_e_fresh) (f := f) (cd := cdv) (A := A) (outer := outer) (s := s) (H := H) (E := E)
    unfold g_law_e_fresh
    exact sjs_cons (sj_set nd (ej_ix (ej_var 0) (ej_int))) (sjs_cons (sj_sto sk_list set_list 0 (ej_op ok_add (ej_var 1) (ej_int)) (ej_int)) (sjs_cons (sj_set nd (ej_int)) (sjs_cons (sj_if (tj_cmp (ok_ne (units_of hr)) (ej_ix (ej_var 0) (ej_int)) (ej_lst (aj_nil))) (sjs_one (sj_set nd (ej_op ok_fdiv (ej_ix (ej_ix (ej_var 0) (ej_int)) (ej_op ok_mod (ej_op ok_mul (ej_var 1) (ej_int)) (ej_callB (cl_len) (by rfl) z_len (by rfl) (aj_cons (ej_ix (ej_var 0) (ej_int)) (aj_nil))))) (ej_op ok_add (ej_int) (ej_op ok_fdiv (ej_var 1) (ej_callB (cl_len) (by rfl) z_len (by rfl) (aj_cons (ej_ix (ej_var 0) (ej_int)) (aj_nil)))))))) (sjs_nil)) (sjs_cons (sj_if (tj_cmp ok_lt (ej_var 1) (ej_callB (cl_len) (by rfl) z_len (by rfl) (aj_cons (ej_ix (ej_var 0) (ej_int)) (aj_nil)))) (sjs_one (sj_set nd (ej_ix (ej_ix (ej_var 0) (ej_int)) (ej_var 1)))) (sjs_nil)) (sjs_cons (sj_if (tj_cmp ok_ge (ej_var 2) (ej_op ok_pow (ej_int) (ej_int))) (sjs_one (sj_ret (ej_mv 2))) (sjs_nil)) (sjs_cons (sj_set nd (ej_ix (ej_lst (aj_cons (ej_int) (aj_cons (ej_int) (aj_cons (ej_int) (aj_cons (ej_int) (aj_cons (ej_int) (aj_cons (ej_int) (aj_cons (ej_int) (aj_nil))))))))) (ej_op ok_mod (ej_var 1) (ej_int)))) (sjs_cons (sj_set nd (ej_ix (ej_lst (aj_cons (ej_int) (aj_cons (ej_int) (aj_cons (ej_int) (aj_cons (ej_int) (aj_cons (ej_int) (aj_nil))))))) (ej_op ok_mod (ej_var 1) (ej_int)))) (sjs_cons (sj_set nd (ej_op ok_mod (ej_op ok_pow (ej_op ok_add (ej_op ok_add (ej_op ok_mod (ej_var 2) (ej_var 3)) (ej_op ok_mul (ej_int) (ej_var 1))) (ej_int)) (ej_int)) (ej_var 3))) (sjs_cons (sj_set nd (ej_op ok_mod (ej_op ok_pow (ej_op ok_add (ej_op ok_add (ej_var 5) (ej_op ok_mod (ej_var 2) (ej_var 4))) (ej_op ok_mul (ej_var 1) (ej_var 1))) (ej_int)) (ej_var 4))) (sjs_one (sj_ret (ej_op ok_add (ej_op ok_mul (ej_op ok_add (ej_var 5) (ej_int)) (ej_var 4)) (ej_var 6)))))))))))))
theorem ok_law_e_fresh {P : Program} {w : World} {K : PySem.W.Frag} {mg : Str → Option Value} {base : Heap} (z_len : mg "len" = none) {f : Addr} {oc : Value} {od an : Option Addr} {osl : Array (Option Value)} {kV doc pm cdv ct : Value}
    (l : K.lookup f = some ⟨oc, od, .func (PySem.W.fnOf "_law_e_fresh" "_law_e_fresh" (defArgs s_law_e_fresh) (defBody s_law_e_fresh) (defScope s_law_e_fresh) .none kV doc pm an cdv ct), osl⟩) (c : PySem.W.codeIn K cdv "_law_e_fresh" = true) (kp : PySem.W.keepIn K (.ref f) = true) (hm : mg "_law_e_fresh" = some (.ref f)) (hn : Named K "_law_e_fresh" f) : Dep P w K mg base 1 "_law_e_fresh" ["pen"] F_law_e_fresh :=
  dep_mk l c kp hm hn (fun _ _ _ _ _ _ us hl => match us, hl with | [_], _ => rfl) (fn_law_e_fresh z_len l c)
/-! _law_e_take -/
abbrev s_law_e_take : Stmt := top 27
def g_law_e_take : Ss := sSeq (sIf (e2 opLt (e2 opIx (eVar 0) (eC (.int 2))) (eVar 1)) (sSto 0 stL (eC (.int 2)) (eFz (eCall F_law_e_fresh (aMut 0 (aNil))))) (sNil)) (sSeq (sSet 2 (e2 opMod (e2 opIx (eVar 0) (eC (.int 2))) (eVar 1))) (sSeq (sSto 0 stL (eC (.int 2)) (e2 opFdiv (e2 opIx (eVar 0) (eC (.int 2))) (eVar 1))) (sRet (eMv 2))))
def F_law_e_take : Fs := fnF 3 2 [0, 1] g_law_e_take
theorem sc_law_e_take : FnScope ["pen", "many", "found"] ["pen", "many"] (defScope s_law_e_take) := ⟨rfl, rfl, rfl, by decide +kernel, rfl, by decide +kernel, by decide +kernel⟩
theorem fn_law_e_take {P : Program} {w : World} {K : PySem.W.Frag} {mg : Str → Option Value} {base : Heap} (D_law_e_fresh : Dep P w K mg base 1 "_law_e_fresh" ["pen"] F_law_e_fresh) {f : Addr} {oc : Value} {od an : Option Addr} {osl : Array (Option Value)} {kV doc pm cdv ct : Value}
    (l : K.lookup f = some ⟨oc, od, .func (PySem.W.fnOf "_law_e_take" "_law_e_take" (defArgs s_law_e_take) (defBody s_law_e_take) (defScope s_law_e_take) .none kV doc pm an cdv ct), osl⟩) (c : PySem.W.codeIn K cdv "_law_e_take" = true) :
    FnG P w K mg base 2 f (PySem.W.fnOf "_law_e_take" "_law_e_take" (defArgs s_law_e_take) (defBody s_law_e_take) (defScope s_law_e_take) .none kV doc pm an cdv ct) ["pen", "many"] F_law_e_take :=
  fn_g l c sc_law_e_take fun A outer s H E hr hg => by
    have nd := sc_law_e_take.nd
    have tk := tk_def (P := P) (w := w) (K := K) (mg := mg) (base := base) (N := ["pen", "many", "found"]) (qual := "_law_e_take") (scope := defScope s_law_e_take) (f := f) (cd := cdv) (A := A) (outer := outer) (s := s) (H := H) (E := E)
    have po := po_def (P := P) (w := w) (K := K) (mg := mg) (base := base) (N := ["pen", "many", "found"]) (qual := "_law_e_take") (scope := defScope s_law_e_take) (f := f) (cd := cdv) (A := A) (outer := outer) (s := s) (H := H) (E := E)
    have d_law_e_fresh := D_law_e_fresh.mono (k := 1) (by decide)
    unfold g_law_e_take
    exact sjs_cons (sj_if (tj_cmp ok_lt (ej_ix (ej_var 0) (ej_int)) (ej_var 1)) (sjs_one (sj_sto sk_list set_list 0 (ej_fz (ej_dep d_law_e_fresh hr hg tk (aj_mut 0 (aj_nil)))) (ej_int))) (sjs_nil)) (sjs_cons (sj_set nd (ej_op ok_mod (ej_ix (ej_var 0) (ej_int)) (ej_var 1))) (sjs_cons (sj_sto sk_list set_list 0 (ej_op ok_fdiv (ej_ix (ej_var 0) (ej_int)) (ej_var 1)) (ej_int)) (sjs_one (sj_ret (ej_mv 2)))))
theorem ok_law_e_take {P : Program} {w : World} {K : PySem.W.Frag} {mg : Str → Option Value} {base : Heap} (D_law_e_fresh : Dep P w K mg base 1 "_law_e_fresh" ["pen"] F_law_e_fresh) {f : Addr} {oc : Value} {od an : Option Addr} {osl : Array (Option Value)} {kV doc pm cdv ct : Value}
    (l : K.lookup f = some ⟨oc, od, .func (PySem.W.fnOf "_law_e_take" "_law_e_take" (defArgs s_law_e_take) (defBody s_law_e_take) (defScope s_law_e_take) .none kV doc pm an cdv ct), osl⟩) (c : PySem.W.codeIn K cdv "_law_e_take" = true) (kp : PySem.W.keepIn K (.ref f) = true) (hm : mg "_law_e_take" = some (.ref f)) (hn : Named K "_law_e_take" f) : Dep P w K mg base 2 "_law_e_take" ["pen", "many"] F_law_e_take :=
  dep_mk l c kp hm hn (fun _ _ _ _ _ _ us hl => match us, hl with | [_, _], _ => rfl) (fn_law_e_take D_law_e_fresh l c)
/-! _law_e_case -/
abbrev s_law_e_case : Stmt := top 29
def g_law_e_case : Ss := sSeq (sSet 1 (e2 opIx (eDisp .lst (aCons (eC (.int 0)) (aCons (eNeg (eC (.int 3))) (aCons (e2 opPow (eC (.int 10)) (eC (.int 6))) (aCons (e2 opSub (eC (.int 0)) (e2 opPow (eC (.int 10)) (eC (.int 29)))) (aNil)))))) (eCall F_law_e_take (aMut 0 (aCons (eC (.int 4)) (aNil)))))) (sSeq (sSet 2 (eFz (eCall F_law_e_take (aMut 0 (aCons (eC (.int 5)) (aNil)))))) (sSeq (sSet 3 (eFz (e2 opAdd (eVar 1) (eCall F_law_e_take (aMut 0 (aCons (eC (.int 5)) (aNil))))))) (sSeq (sSet 4 (eFz (e2 opAdd (eVar 3) (eCall F_law_e_take (aMut 0 (aCons (eC (.int 5)) (aNil))))))) (sSeq (sSet 5 (eFz (eComp (iRng (aCons (eCall F_law_e_take (aMut 0 (aCons (eC (.int 6)) (aNil)))) aNil)) (gNm 7) (cYes) (e2 opSub (e2 opAdd (eVar 1) (eCall F_law_e_take (aMut 0 (aCons (eC (.int 14)) (aNil))))) (eC (.int 3))) [7]))) (sSeq (sSet 6 (eC .none)) (sSeq (sIf (e2 opGt (eCall F_law_e_take (aMut 0 (aCons (eC (.int 3)) (aNil)))) (eC (.int 0))) (sSet 6 (eFz (e2 opAdd (e2 opMul (eVar 2) (eVar 3)) (eCall F_law_e_take (aMut 0 (aCons (e2 opAdd (e2 opMul (eVar 2) (e2 opSub (eVar 4) (eVar 3))) (eC (.int 1))) (aNil))))))) (sNil)) (sSeq (sIf (e2 opEq (eCall F_law_e_take (aMut 0 (aCons (eC (.int 8)) (aNil)))) (eC (.int 0))) (sSet 6 (e2 opIx (eDisp .lst (aCons (e2 opSub (e2 opMul (eVar 2) (eVar 3)) (eC (.int 1))) (aCons (e2 opAdd (e2 opMul (eVar 2) (eVar 4)) (eC (.int 1))) (aCons (e2 opSub (e2 opSub (eC (.int 0)) (e2 opMul (eVar 2) (eVar 3))) (eC (.int 5))) (aCons (e2 opAdd (e2 opPow (eC (.int 10)) (eC (.int 30))) (eC (.int 1))) (aNil)))))) (eCall F_law_e_take (aMut 0 (aCons (eC (.int 4)) (aNil)))))) (sNil)) (sRet (eDisp mkTup (aCons (eVar 5) (aCons (eVar 2) (aCons (eVar 3) (aCons (eVar 4) (aCons (eVar 6) (aNil)))))))))))))))
def F_law_e_case : Fs := fnF 8 1 [0] g_law_e_case
theorem sc_law_e_case : FnScope ["pen", "base", "many", "low", "high", "kept", "total", "turn"] ["pen"] (defScope s_law_e_case) := ⟨rfl, rfl, rfl, by decide +kernel, rfl, by decide +kernel, by decide +kernel⟩
theorem fn_law_e_case {P : Program} {w : World} {K : PySem.W.Frag} {mg : Str → Option Value} {base : Heap} (D_law_e_take : Dep P w K mg base 2 "_law_e_take" ["pen", "many"] F_law_e_take) (z_range : mg "range" = none) {f : Addr} {oc : Value} {od an : Option Addr} {osl : Array (Option Value)} {kV doc pm cdv ct : Value}
    (l : K.lookup f = some ⟨oc, od, .func (PySem.W.fnOf "_law_e_case" "_law_e_case" (defArgs s_law_e_case) (defBody s_law_e_case) (defScope s_law_e_case) .none kV doc pm an cdv ct), osl⟩) (c : PySem.W.codeIn K cdv "_law_e_case" = true) :
    FnG P w K mg base 3 f (PySem.W.fnOf "_law_e_case" "_law_e_case" (defArgs s_law_e_case) (defBody s_law_e_case) (defScope s_law_e_case) .none kV doc pm an cdv ct) ["pen"] F_law_e_case :=
  fn_g l c sc_law_e_case fun A outer s H E hr hg => by
    have nd := sc_law_e_case.nd
    have tk := tk_def (P := P) (w := w) (K := K) (mg := mg) (base := base) (N := ["pen", "base", "many", "low", "high", "kept", "total", "turn"]) (qual := "_law_e_case") (scope := defScope s_law_e_case) (f := f) (cd := cdv) (A := A) (outer := outer) (s := s) (H := H) (E := E)
    have po := po_def (P := P) (w := w) (K := K) (mg := mg) (base := base) (N := ["pen", "base", "many", "low", "high", "kept", "total", "turn"]) (qual := "_law_e_case") (scope := defScope s_law_e_case) (f := f) (cd := cdv) (A := A) (outer := outer) (s := s) (H := H) (E := E)
    have d_law_e_take := D_law_e_take.mono (k := 2) (by decide)
    unfold g_law_e_case
    exact sjs_cons (sj_set nd (ej_ix (ej_lst (aj_cons (ej_int) (aj_cons (ej_neg (ej_int)) (aj_cons (ej_op ok_pow (ej_int) (ej_int)) (aj_cons (ej_op ok_sub (ej_int) (ej_op ok_pow (ej_int) (ej_int))) (aj_nil)))))) (ej_dep d_law_e_take hr hg tk (aj_mut 0 (aj_cons (ej_int) (aj_nil)))))) (sjs_cons (sj_set nd (ej_fz (ej_dep d_law_e_take hr hg tk (aj_mut 0 (aj_cons (ej_int) (aj_nil)))))) (sjs_cons (sj_set nd (ej_fz (ej_op ok_add (ej_var 1) (ej_dep d_law_e_take hr hg tk (aj_mut 0 (aj_cons (ej_int) (aj_nil))))))) (sjs_cons (sj_set nd (ej_fz (ej_op ok_add (ej_var 3) (ej_dep d_law_e_take hr hg tk (aj_mut 0 (aj_cons (ej_int) (aj_nil))))))) (sjs_cons (sj_compF (B := [0, 1, 2, 3, 4, 5, 6]) (own := [("turn", 7)]) rfl nd (i := 5) (by decide) (by rfl) (by rfl) (sw_true rfl (by rfl) (by rfl) (by rfl)) (cov_of (by kernel_rfl)) (ij_rng1 (by rfl) z_range (ej_dep d_law_e_take hr hg tk (aj_mut 0 (aj_cons (ej_int) (aj_nil))))) (blkOk_by (by kernel_rfl)) (fun _ _ _ _ _ => gj_nm nd) (fun _ _ _ _ _ => (cj_nil)) (fun _ _ _ _ _ => (ej_op ok_sub (ej_op ok_add (ej_var 1) (ej_dep d_law_e_take hr hg tk0 (aj_mut 0 (aj_cons (ej_int) (aj_nil))))) (ej_int)))) (sjs_cons (sj_set nd (ej_non)) (sjs_cons (sj_if (tj_cmp ok_gt (ej_dep d_law_e_take hr hg tk (aj_mut 0 (aj_cons (ej_int) (aj_nil)))) (ej_int)) (sjs_one (sj_set nd (ej_fz (ej_op ok_add (ej_op ok_mul (ej_var 2) (ej_var 3)) (ej_dep d_law_e_take hr hg tk (aj_mut 0 (aj_cons (ej_op ok_add (ej_op ok_mul (ej_var 2) (ej_op ok_sub (ej_var 4) (ej_var 3))) (ej_int)) (aj_nil)))))))) (sjs_nil)) (sjs_cons (sj_if (tj_cmp (ok_eq (units_of hr)) (ej_dep d_law_e_take hr hg tk (aj_mut 0 (aj_cons (ej_int) (aj_nil)))) (ej_int)) (sjs_one (sj_set nd (ej_ix (ej_lst (aj_cons (ej_op ok_sub (ej_op ok_mul (ej_var 2) (ej_var 3)) (ej_int)) (aj_cons (ej_op ok_add (ej_op ok_mul (ej_var 2) (ej_var 4)) (ej_int)) (aj_cons (ej_op ok_sub (ej_op ok_sub (ej_int) (ej_op ok_mul (ej_var 2) (ej_var 3))) (ej_int)) (aj_cons (ej_op ok_add (ej_op ok_pow (ej_int) (ej_int)) (ej_int)) (aj_nil)))))) (ej_dep d_law_e_take hr hg tk (aj_mut 0 (aj_cons (ej_int) (aj_nil))))))) (sjs_nil)) (sjs_one (sj_ret (ej_tup (aj_cons (ej_var 5) (aj_cons (ej_var 2) (aj_cons (ej_var 3) (aj_cons (ej_var 4) (aj_cons (ej_var 6) (aj_nil))))))))))))))))
theorem ok_law_e_case {P : Program} {w : World} {K : PySem.W.Frag} {mg : Str → Option Value} {base : Heap} (D_law_e_take : Dep P w K mg base 2 "_law_e_take" ["pen", "many"] F_law_e_take) (z_range : mg "range" = none) {f : Addr} {oc : Value} {od an : Option Addr} {osl : Array (Option Value)} {kV doc pm cdv ct : Value}
    (l : K.lookup f = some ⟨oc, od, .func (PySem.W.fnOf "_law_e_case" "_law_e_case" (defArgs s_law_e_case) (defBody s_law_e_case) (defScope s_law_e_case) .none kV doc pm an cdv ct), osl⟩) (c : PySem.W.codeIn K cdv "_law_e_case" = true) (kp : PySem.W.keepIn K (.ref f) = true) (hm : mg "_law_e_case" = some (.ref f)) (hn : Named K "_law_e_case" f) : Dep P w K mg base 3 "_law_e_case" ["pen"] F_law_e_case :=
  dep_mk l c kp hm hn (fun _ _ _ _ _ _ us hl => match us, hl with | [_], _ => rfl) (fn_law_e_case D_law_e_take z_range l c)
/-! _law_e_dealings -/
abbrev s_law_e_dealings : Stmt := top 28
def g_law_e_dealings : Ss := sSeq (sSet 4 (eFz (eDisp .lst (aCons (eDisp mkTup (aNil)) (aNil))))) (sSeq (sFor (iRng (aCons (eVar 0) aNil)) (gNm 5) (sSeq (sSet 6 (eDisp .lst (aNil))) (sSeq (sFor (iOf pL (eVar 4)) (gNm 7) (sExpr (eMut isL 6 moExtend (aCons (eFz (eComp (iRng (aCons (eVar 1) (aCons (e2 opAdd (eVar 2) (eC (.int 1))) aNil))) (gNm 8) (eOr (e2 opEq (eVar 7) (eDisp mkTup (aNil))) (e2 opGe (eVar 8) (e2 opIx (eVar 7) (eNeg (eC (.int 1)))))) (e2 opAdd (eVar 7) (eDisp mkTup (aCons (eVar 8) (aNil)))) [8])) (aNil))))) (sSet 4 (eFz (eMv 6)))))) (sRet (eComp (iOf pL (eVar 4)) (gNm 7) (eOr (e2 opIs (eVar 3) (eC .none)) (e2 opEq (eB (on1 bSum2) (aCons (eVar 7) (aNil))) (eVar 3))) (eVar 7) [7])))
def F_law_e_dealings : Fs := fnF 9 4 [0, 1, 2, 3] g_law_e_dealings
theorem sc_law_e_dealings : FnScope ["many", "low", "high", "total", "found", "turn", "longer", "some", "value"] ["many", "low", "high", "total"] (defScope s_law_e_dealings) := ⟨rfl, rfl, rfl, by decide +kernel, rfl, by decide +kernel, by decide +kernel⟩
theorem fn_law_e_dealings {P : Program} {w : World} {K : PySem.W.Frag} {mg : Str → Option Value} {base : Heap} (z_range : mg "range" = none) (z_sum : mg "sum" = none) {f : Addr} {oc : Value} {od an : Option Addr} {osl : Array (Option Value)} {kV doc pm cdv ct : Value}
    (l : K.lookup f = some ⟨oc, od, .func (PySem.W.fnOf "_law_e_dealings" "_law_e_dealings" (defArgs s_law_e_dealings) (defBody s_law_e_dealings) (defScope s_law_e_dealings) .none kV doc pm an cdv ct), osl⟩) (c : PySem.W.codeIn K cdv "_law_e_dealings" = true) :
    FnG P w K mg base 1 f (PySem.W.fnOf "_law_e_dealings" "_law_e_dealings" (defArgs s_law_e_dealings) (defBody s_law_e_dealings) (defScope s_law_e_dealings) .none kV doc pm an cdv ct) ["many", "low", "high", "total"] F_law_e_dealings :=
  fn_g l c sc_law_e_dealings fun A outer s H E hr hg => by
    have nd := sc_law_e_dealings.nd
    have tk := tk_def (P := P) (w := w) (K := K) (mg := mg) (base := base) (N := ["many", "low", "high", "total", "found", "turn", "longer", "some", "value"]) (qual := "_law_e_dealings") (scope := defScope s_law_e_dealings) (f := f) (cd := cdv) (A := A) (outer := outer) (s := s) (H := H) (E := E)
    have po := po_def (P := P) (w := w) (K := K) (mg := mg) (base := base) (N := ["many", "low", "high", "total", "found", "turn", "longer", "some", "value"]) (qual := "_law_e_dealings") (scope := defScope s_law_e_dealings) (f := f) (cd := cdv) (A := A) (outer := outer) (s := s) (H := H) (E := E)
    unfold g_law_e_dealings
    exact sjs_cons (sj_set nd (ej_fz (ej_lst (aj_cons (ej_tup (aj_nil)) (aj_nil))))) (sjs_cons (sj_for po rfl (ij_rng1 (by rfl) z_range (ej_var 0)) (gj_nm nd) (sjs_cons (sj_set nd (ej_lst (aj_nil))) (sjs_cons (sj_for po rfl (ij_list (ej_var 4)) (gj_nm nd) (sjs_one (sj_expr (ej_mut kindL mk_extend PySem.F.plainAttrs_list PySem.F.slot_list_extend PySem.F.type_list_extend mt_extend 6 (aj_cons (ej_fz (ej_comp (B := [0, 1, 2, 3, 4, 5, 6, 7]) (own := [("value", 8)]) rfl nd (cov_of (by kernel_rfl)) (ij_rng2 (by rfl) z_range (ej_var 1) (ej_op ok_add (ej_var 2) (ej_int))) (blkOk_by (by kernel_rfl)) (fun _ _ _ _ _ => gj_nm nd) (fun _ _ _ _ _ => (cj_one (tj_of (wj_or (tj_cmp (ok_eq (units_of hr)) (ej_var 7) (ej_tup (aj_nil))) (wj_or1 (tj_cmp ok_ge (ej_var 8) (ej_ix (ej_var 7) (ej_neg (ej_int))))))))) (fun _ _ _ _ _ => (ej_op ok_add (ej_var 7) (ej_tup (aj_cons (ej_var 8) (aj_nil))))))) (aj_nil)))))) (sjs_one (sj_set nd (ej_fz (ej_mv 6))))))) (sjs_one (sj_ret (ej_comp (B := [0, 1, 2, 3, 4, 5, 6, 8]) (own := [("some", 7)]) rfl nd (cov_of (by kernel_rfl)) (ij_list (ej_var 4)) (blkOk_by (by kernel_rfl)) (fun _ _ _ _ _ => gj_nm nd) (fun _ _ _ _ _ => (cj_one (tj_of (wj_or (tj_cmp ok_is (ej_var 3) (ej_non)) (wj_or1 (tj_cmp (ok_eq (units_of hr)) (ej_callB (cl_sum2 rfl) (by rfl) z_sum (by rfl) (aj_cons (ej_var 7) (aj_nil))) (ej_var 3))))))) (fun _ _ _ _ _ => (ej_var 7))))))
theorem ok_law_e_dealings {P : Program} {w : World} {K : PySem.W.Frag} {mg : Str → Option Value} {base : Heap} (z_range : mg "range" = none) (z_sum : mg "sum" = none) {f : Addr} {oc : Value} {od an : Option Addr} {osl : Array (Option Value)} {kV doc pm cdv ct : Value}
    (l : K.lookup f = some ⟨oc, od, .func (PySem.W.fnOf "_law_e_dealings" "_law_e_dealings" (defArgs s_law_e_dealings) (defBody s_law_e_dealings) (defScope s_law_e_dealings) .none kV doc pm an cdv ct), osl⟩) (c : PySem.W.codeIn K cdv "_law_e_dealings" = true) (kp : PySem.W.keepIn K (.ref f) = true) (hm : mg "_law_e_dealings" = some (.ref f)) (hn : Named K "_law_e_dealings" f) : Dep P w K mg base 1 "_law_e_dealings" ["many", "low", "high", "total"] F_law_e_dealings :=
  dep_mk l c kp hm hn (fun _ _ _ _ _ _ us hl => match us, hl with | [_, _, _, _], _ => rfl) (fn_law_e_dealings z_range z_sum l c)
/-! _law_e_numbers -/
abbrev s_law_e_numbers : Stmt := top 31
def g_law_e_numbers : Ss := sSeq (sAsg (gTp [gNm 2, gNm 3, gNm 4, gNm 5, gNm 6]) (eVar 1)) (sSeq (sSet 7 (eFz (e2 opAdd (e2 opAdd (e2 opRg (e2 opSub (eVar 4) (eC (.int 2))) (e2 opAdd (eVar 5) (eC (.int 3)))) (eSl (eVar 2) none (some (eC (.int 3))))) (eComp (iOf pL (eFz (eSl (eVar 2) none (some (eC (.int 2)))))) (gNm 8) (cYes) (e2 opAdd (eVar 8) (eC (.int 1))) [8])))) (sRet (e2 opAdd (eVar 7) (eDisp .lst (aCons (e2 opPow (eC (.int 10)) (eC (.int 30))) (aCons (e2 opSub (eC (.int 0)) (e2 opPow (eC (.int 10)) (eC (.int 30)))) (aCons (e2 opSub (e2 opAdd (eVar 4) (eCall F_law_e_take (aMut 0 (aCons (eC (.int 40)) (aNil))))) (eC (.int 20))) (aNil))))))))
def F_law_e_numbers : Fs := fnF 9 2 [0, 1] g_law_e_numbers
theorem sc_law_e_numbers : FnScope ["pen", "case", "kept", "many", "low", "high", "total", "some", "value"] ["pen", "case"] (defScope s_law_e_numbers) := ⟨rfl, rfl, rfl, by decide +kernel, rfl, by decide +kernel, by decide +kernel⟩
theorem fn_law_e_numbers {P : Program} {w : World} {K : PySem.W.Frag} {mg : Str → Option Value} {base : Heap} (D_law_e_take : Dep P w K mg base 2 "_law_e_take" ["pen", "many"] F_law_e_take) (z_list : mg "list" = none) (z_range : mg "range" = none) {f : Addr} {oc : Value} {od an : Option Addr} {osl : Array (Option Value)} {kV doc pm cdv ct : Value}
    (l : K.lookup f = some ⟨oc, od, .func (PySem.W.fnOf "_law_e_numbers" "_law_e_numbers" (defArgs s_law_e_numbers) (defBody s_law_e_numbers) (defScope s_law_e_numbers) .none kV doc pm an cdv ct), osl⟩) (c : PySem.W.codeIn K cdv "_law_e_numbers" = true) :
    FnG P w K mg base 3 f (PySem.W.fnOf "_law_e_numbers" "_law_e_numbers" (defArgs s_law_e_numbers) (defBody s_law_e_numbers) (defScope s_law_e_numbers) .none kV doc pm an cdv ct) ["pen", "case"] F_law_e_numbers :=
  fn_g l c sc_law_e_numbers fun A outer s H E hr hg => by
    have nd := sc_law_e_numbers.nd
    have tk := tk_def (P := P) (w := w) (K := K) (mg := mg) (base := base) (N := ["pen", "case", "kept", "many", "low", "high", "total", "some", "value"]) (qual := "_law_e_numbers") (scope := defScope s_law_e_numbers) (f := f) (cd := cdv) (A := A) (outer := outer) (s := s) (H := H) (E := E)
    have po := po_def (P := P) (w := w) (K := K) (mg := mg) (base := base) (N := ["pen", "case", "kept", "many", "low", "high", "total", "some", "value"]) (qual := "_law_e_numbers") (scope := defScope s_law_e_numbers) (f := f) (cd := cdv) (A := A) (outer := outer) (s := s) (H := H) (E := E)
    have d_law_e_take := D_law_e_take.mono (k := 2) (by decide)
    unfold g_law_e_numbers
    exact sjs_cons (sj_asg (ej_var 1) (gj_tp rfl (gsj_cons (gj_nm nd) (gsj_cons (gj_nm nd) (gsj_cons (gj_nm nd) (gsj_cons (gj_nm nd) (gsj_cons (gj_nm nd) (gsj_nil)))))))) (sjs_cons (sj_set nd (ej_fz (ej_op ok_add (ej_op ok_add (ej_lrg2 rfl (by rfl) z_list (by rfl) z_range (ej_op ok_sub (ej_var 4) (ej_int)) (ej_op ok_add (ej_var 5) (ej_int))) (ej_slT (ej_var 2) (ej_int))) (ej_comp (B := [0, 1, 2, 3, 4, 5, 6, 7]) (own := [("value", 8)]) rfl nd (cov_of (by kernel_rfl)) (ij_list (ej_fz (ej_slT (ej_var 2) (ej_int)))) (blkOk_by (by kernel_rfl)) (fun _ _ _ _ _ => gj_nm nd) (fun _ _ _ _ _ => (cj_nil)) (fun _ _ _ _ _ => (ej_op ok_add (ej_var 8) (ej_int))))))) (sjs_one (sj_ret (ej_op ok_add (ej_var 7) (ej_lst (aj_cons (ej_op ok_pow (ej_int) (ej_int)) (aj_cons (ej_op ok_sub (ej_int) (ej_op ok_pow (ej_int) (ej_int))) (aj_cons (ej_op ok_sub (ej_op ok_add (ej_var 4) (ej_dep d_law_e_take hr hg tk (aj_mut 0 (aj_cons (ej_int) (aj_nil))))) (ej_int)) (aj_nil)))))))))
theorem ok_law_e_numbers {P : Program} {w : World} {K : PySem.W.Frag} {mg : Str → Option Value} {base : Heap} (D_law_e_take : Dep P w K mg base 2 "_law_e_take" ["pen", "many"] F_law_e_take) (z_list : mg "list" = none) (z_range : mg "range" = none) {f : Addr} {oc : Value} {od an : Option Addr} {osl : Array (Option Value)} {kV doc pm cdv ct : Value}
    (l : K.lookup f = some ⟨oc, od, .func (PySem.W.fnOf "_law_e_numbers" "_law_e_numbers" (defArgs s_law_e_numbers) (defBody s_law_e_numbers) (defScope s_law_e_numbers) .none kV doc pm an cdv ct), osl⟩) (c : PySem.W.codeIn K cdv "_law_e_numbers" = true) (kp : PySem.W.keepIn K (.ref f) = true) (hm : mg "_law_e_numbers" = some (.ref f)) (hn : Named K "_law_e_numbers" f) : Dep P w K mg base 3 "_law_e_numbers" ["pen", "case"] F_law_e_numbers :=
  dep_mk l c kp hm hn (fun _ _ _ _ _ _ us hl => match us, hl with | [_, _], _ => rfl) (fn_law_e_numbers D_law_e_take z_list z_range l c)
/-! _law_e_said -/
abbrev s_law_e_said : Stmt := top 30
def g_law_e_said : Ss := sSeq (sSet 2 (eC .none)) (sSeq (sSet 3 (eC .none)) (sSeq (sTry ["NoDealing"] (sIf (e2 opEq (eB (on1 bLen) (aCons (eVar 1) (aNil))) (eC (.int 6))) (sSet 3 (eFz (eCallV 0 [("over_bounds", F_over_bounds)] (aCons (e2 opIx (eVar 1) (eC (.int 0))) (aCons (e2 opIx (eVar 1) (eC (.int 1))) (aCons (e2 opIx (eVar 1) (eC (.int 2))) (aCons (e2 opIx (eVar 1) (eC (.int 3))) (aCons (e2 opIx (eVar 1) (eC (.int 4))) (aCons (e2 opIx (eVar 1) (eC (.int 5))) (aNil)))))))))) (sSet 3 (eFz (eCallV 0 [] (aCons (e2 opIx (eVar 1) (eC (.int 0))) (aCons (e2 opIx (eVar 1) (eC (.int 1))) (aCons (e2 opIx (eVar 1) (eC (.int 2))) (aCons (e2 opIx (eVar 1) (eC (.int 3))) (aCons (e2 opIx (eVar 1) (eC (.int 4))) (aCons (e2 opIx (eVar 1) (eC (.int 5))) (aCons (e2 opIx (eVar 1) (eC (.int 6))) (aNil)))))))))))) 2 4) (sSeq (sIf (e2 opIs (eVar 2) (eC .none)) (sRet (eDisp mkTup (aCons (eC (.str "told")) (aCons (eVar 3) (aNil))))) (sNil)) (sSeq (sSet 5 (eFz (eDisp .lst (aCons (eIsx [] ["NoDealing"] (eVar 2)) (aCons (eIsx ["NoDealing"] [] (eVar 2)) (aNil)))))) (sSeq (sSet 6 (eIsx [] ["NoDealing"] (eVar 2))) (sSeq (sSet 6 (eOr (eVar 6) (eIsx [] ["NoDealing"] (eVar 2)))) (sSeq (sIf (eOr (eVar 6) (eOr (e2 opNe (eM isLi bCount (eVar 5) (aCons (eC (.bool true)) (aNil))) (eC (.int 1))) (eNot (eIsx ["NoDealing"] [] (eVar 2))))) (sRet (eDisp mkTup (aCons (eC (.str "odd")) (aCons (eC .none) (aNil))))) (sNil)) (sRet (eDisp mkTup (aCons (e2 opIx (eDisp .lst (aCons (eC (.str "place")) (aCons (eC (.str "dealing")) (aNil)))) (eM isLi bIndex (eVar 5) (aCons (eC (.bool true)) (aNil)))) (aCons (eC .none) (aNil))))))))))))
def F_law_e_said : Fs := fnF 7 2 [0, 1] g_law_e_said
theorem sc_law_e_said : FnScope ["act", "asked", "caught", "found", "e", "some", "others"] ["act", "asked"] (defScope s_law_e_said) := ⟨rfl, rfl, rfl, by decide +kernel, rfl, by decide +kernel, by decide +kernel⟩
theorem fn_law_e_said {P : Program} {w : World} {K : PySem.W.Frag} {mg : Str → Option Value} {base : Heap} (D_over_bounds : Dep P w K mg base 2 "over_bounds" ["kept", "many", "low", "high", "total", "number"] F_over_bounds) (z_ValueError : mg "ValueError" = none) (z_isinstance : mg "isinstance" = none) (z_len : mg "len" = none) {c_Clash : Addr} {c_NoBack : Addr} {c_NoDealing : Addr} {c_NoGap : Addr} {c_NoHouse : Addr} {c_NoMore : Addr} {c_NoPiece : Addr} {c_NoPlace : Addr} {c_NoRow : Addr} {c_NoRun : Addr} {c_NoShifts : Addr} {c_NoText : Addr} {c_NoWood : Addr} {c_NotOne : Addr} {c_NotRight : Addr} {c_NotWhole : Addr} {c_TooMany : Addr} {c_WoodError : Addr} (e_NoDealing_WoodError : PySem.W.exmOne K (.ref c_NoDealing) (.ref c_WoodError) = some true) (g_Clash : mg "Clash" = some (.ref c_Clash)) (g_NoBack : mg "NoBack" = some (.ref c_NoBack)) (g_NoDealing : mg "NoDealing" = some (.ref c_NoDealing)) (g_NoGap : mg "NoGap" = some (.ref c_NoGap)) (g_NoHouse : mg "NoHouse" = some (.ref c_NoHouse)) (g_NoMore : mg "NoMore" = some (.ref c_NoMore)) (g_NoPiece : mg "NoPiece" = some (.ref c_NoPiece)) (g_NoPlace : mg "NoPlace" = some (.ref c_NoPlace)) (g_NoRow : mg "NoRow" = some (.ref c_NoRow)) (g_NoRun : mg "NoRun" = some (.ref c_NoRun)) (g_NoShifts : mg "NoShifts" = some (.ref c_NoShifts)) (g_NoText : mg "NoText" = some (.ref c_NoText)) (g_NoWood : mg "NoWood" = some (.ref c_NoWood)) (g_NotOne : mg "NotOne" = some (.ref c_NotOne)) (g_NotRight : mg "NotRight" = some (.ref c_NotRight)) (g_NotWhole : mg "NotWhole" = some (.ref c_NotWhole)) (g_TooMany : mg "TooMany" = some (.ref c_TooMany)) (g_WoodError : mg "WoodError" = some (.ref c_WoodError)) (i_NoDealing_Clash_NoBack_NoGap_NoHouse_NoMore_NoPiece_NoRow_NoRun_NoShifts_NoText : PySem.W.kitAny K (.ref c_NoDealing) [.ref c_Clash, .ref c_NoBack, .ref c_NoGap, .ref c_NoHouse, .ref c_NoMore, .ref c_NoPiece, .ref c_NoRow, .ref c_NoRun, .ref c_NoShifts, .ref c_NoText] = some false) (i_NoDealing_NoDealing : PySem.W.kitOne K (.ref c_NoDealing) (.ref c_NoDealing) = some true) (i_NoDealing_NoPlace : PySem.W.kitOne K (.ref c_NoDealing) (.ref c_NoPlace) = some false) (i_NoDealing_NoWood_NotOne_NotRight_NotWhole_TooMany : PySem.W.kitAny K (.ref c_NoDealing) [.ref c_NoWood, .ref c_NotOne, .ref c_NotRight, .ref c_NotWhole, .ref c_TooMany] = some false) (i_NoDealing_ValueError : PySem.W.kitOne K (.ref c_NoDealing) (.type "ValueError") = some true) (n_Clash : Named K "Clash" c_Clash) (n_NoBack : Named K "NoBack" c_NoBack) (n_NoDealing : Named K "NoDealing" c_NoDealing) (n_NoGap : Named K "NoGap" c_NoGap) (n_NoHouse : Named K "NoHouse" c_NoHouse) (n_NoMore : Named K "NoMore" c_NoMore) (n_NoPiece : Named K "NoPiece" c_NoPiece) (n_NoPlace : Named K "NoPlace" c_NoPlace) (n_NoRow : Named K "NoRow" c_NoRow) (n_NoRun : Named K "NoRun" c_NoRun) (n_NoShifts : Named K "NoShifts" c_NoShifts) (n_NoText : Named K "NoText" c_NoText) (n_NoWood : Named K "NoWood" c_NoWood) (n_NotOne : Named K "NotOne" c_NotOne) (n_NotRight : Named K "NotRight" c_NotRight) (n_NotWhole : Named K "NotWhole" c_NotWhole) (n_TooMany : Named K "TooMany" c_TooMany) (n_WoodError : Named K "WoodError" c_WoodError) (xc_NoDealing : XCls K c_NoDealing) {f : Addr} {oc : Value} {od an : Option Addr} {osl : Array (Option Value)} {kV doc pm cdv ct : Value}
    (l : K.lookup f = some ⟨oc, od, .func (PySem.W.fnOf "_law_e_said" "_law_e_said" (defArgs s_law_e_said) (defBody s_law_e_said) (defScope s_law_e_said) .none kV doc pm an cdv ct), osl⟩) (c : PySem.W.codeIn K cdv "_law_e_said" = true) :
    FnG P w K mg base 3 f (PySem.W.fnOf "_law_e_said" "_law_e_said" (defArgs s_law_e_said) (defBody s_law_e_said) (defScope s_law_e_said) .none kV doc pm an cdv ct) ["act", "asked"] F_law_e_said :=
  fn_g l c sc_law_e_said fun A outer s H E hr hg => by
    have nd := sc_law_e_said.nd
    have tk := tk_def (P := P) (w := w) (K := K) (mg := mg) (base := base) (N := ["act", "asked", "caught", "found", "e", "some", "others"]) (qual := "_law_e_said") (scope := defScope s_law_e_said) (f := f) (cd := cdv) (A := A) (outer := outer) (s := s) (H := H) (E := E)
    have po := po_def (P := P) (w := w) (K := K) (mg := mg) (base := base) (N := ["act", "asked", "caught", "found", "e", "some", "others"]) (qual := "_law_e_said") (scope := defScope s_law_e_said) (f := f) (cd := cdv) (A := A) (outer := outer) (s := s) (H := H) (E := E)
    have d_over_bounds := D_over_bounds.mono (k := 2) (by decide)
    unfold g_law_e_said
    exact sjs_cons (sj_set nd (ej_non)) (sjs_cons (sj_set nd (ej_non)) (sjs_cons (sj_try rfl rfl rfl nd (cW := .ref c_WoodError) ⟨by rfl, by decide, .inl g_WoodError⟩ tk (al_cons n_NoDealing e_NoDealing_WoodError (al_nil)) (fun _ _ _ tk po => sjs_one (sj_if (tj_cmp (ok_eq (units_of hr)) (ej_callB (cl_len) (by rfl) z_len (by rfl) (aj_cons (ej_var 1) (aj_nil))) (ej_int)) (sjs_one (sj_set nd (ej_fz (ej_callV (k := 2) (tb_cons d_over_bounds (tb_nil)) hr hg tk 0 (aj_cons (ej_ix (ej_var 1) (ej_int)) (aj_cons (ej_ix (ej_var 1) (ej_int)) (aj_cons (ej_ix (ej_var 1) (ej_int)) (aj_cons (ej_ix (ej_var 1) (ej_int)) (aj_cons (ej_ix (ej_var 1) (ej_int)) (aj_cons (ej_ix (ej_var 1) (ej_int)) (aj_nil))))))))))) (sjs_one (sj_set nd (ej_fz (ej_callV (k := 2) (tb_nil) hr hg tk 0 (aj_cons (ej_ix (ej_var 1) (ej_int)) (aj_cons (ej_ix (ej_var 1) (ej_int)) (aj_cons (ej_ix (ej_var 1) (ej_int)) (aj_cons (ej_ix (ej_var 1) (ej_int)) (aj_cons (ej_ix (ej_var 1) (ej_int)) (aj_cons (ej_ix (ej_var 1) (ej_int)) (aj_cons (ej_ix (ej_var 1) (ej_int)) (aj_nil))))))))))))))) (sjs_cons (sj_if (tj_cmp ok_is (ej_var 2) (ej_non)) (sjs_one (sj_ret (ej_tup (aj_cons (ej_str) (aj_cons (ej_var 3) (aj_nil)))))) (sjs_nil)) (sjs_cons (sj_set nd (ej_fz (ej_lst (aj_cons (ej_isx (ej_var 2) (by rfl) z_isinstance (pe_glob (v := .ref c_NoPlace) (by rfl) g_NoPlace rfl) (.own _) (al_cons n_NoDealing xc_NoDealing (al_nil)) (al_nil) (al_cons n_NoDealing i_NoDealing_NoPlace (al_nil))) (aj_cons (ej_isx (ej_var 2) (by rfl) z_isinstance (pe_glob (v := .ref c_NoDealing) (by rfl) g_NoDealing rfl) (.own _) (al_cons n_NoDealing xc_NoDealing (al_nil)) (al_cons n_NoDealing i_NoDealing_NoDealing (al_nil)) (al_nil)) (aj_nil)))))) (sjs_cons (sj_set nd (ej_isxT (ej_var 2) (by rfl) z_isinstance (pcl_cons (pe_glob (v := .ref c_Clash) (by rfl) g_Clash rfl) (.own _) (pcl_cons (pe_glob (v := .ref c_NoBack) (by rfl) g_NoBack rfl) (.own _) (pcl_cons (pe_glob (v := .ref c_NoGap) (by rfl) g_NoGap rfl) (.own _) (pcl_cons (pe_glob (v := .ref c_NoHouse) (by rfl) g_NoHouse rfl) (.own _) (pcl_cons (pe_glob (v := .ref c_NoMore) (by rfl) g_NoMore rfl) (.own _) (pcl_cons (pe_glob (v := .ref c_NoPiece) (by rfl) g_NoPiece rfl) (.own _) (pcl_cons (pe_glob (v := .ref c_NoRow) (by rfl) g_NoRow rfl) (.own _) (pcl_cons (pe_glob (v := .ref c_NoRun) (by rfl) g_NoRun rfl) (.own _) (pcl_cons (pe_glob (v := .ref c_NoShifts) (by rfl) g_NoShifts rfl) (.own _) (pcl_cons (pe_glob (v := .ref c_NoText) (by rfl) g_NoText rfl) (.own _) (pcl_nil))))))))))) sz_10 (al_cons n_NoDealing xc_NoDealing (al_nil)) (al_nil) (al_cons n_NoDealing i_NoDealing_Clash_NoBack_NoGap_NoHouse_NoMore_NoPiece_NoRow_NoRun_NoShifts_NoText (al_nil)))) (sjs_cons (sj_set nd (ej_or (ej_var 6) (ej_one (ej_isxT (ej_var 2) (by rfl) z_isinstance (pcl_cons (pe_glob (v := .ref c_NoWood) (by rfl) g_NoWood rfl) (.own _) (pcl_cons (pe_glob (v := .ref c_NotOne) (by rfl) g_NotOne rfl) (.own _) (pcl_cons (pe_glob (v := .ref c_NotRight) (by rfl) g_NotRight rfl) (.own _) (pcl_cons (pe_glob (v := .ref c_NotWhole) (by rfl) g_NotWhole rfl) (.own _) (pcl_cons (pe_glob (v := .ref c_TooMany) (by rfl) g_TooMany rfl) (.own _) (pcl_nil)))))) sz_5 (al_cons n_NoDealing xc_NoDealing (al_nil)) (al_nil) (al_cons n_NoDealing i_NoDealing_NoWood_NotOne_NotRight_NotWhole_TooMany (al_nil)))))) (sjs_cons (sj_if (tj_of (wj_or (tj_val (ej_var 6)) (wj_or (tj_cmp (ok_ne (units_of hr)) (ej_m kpL mk_count PySem.F.plainAttrs_list PySem.F.slot_list_count PySem.F.type_list_count (mt_countD (units65 hr)) (ej_var 5) (aj_cons (ej_bl) (aj_nil))) (ej_int)) (wj_or1 (tj_not (tj_val (ej_isx (ej_var 2) (by rfl) z_isinstance (pe_bltn (v := .ty "ValueError") (by rfl) z_ValueError (by rfl) rfl) (.ty _) (al_cons n_NoDealing xc_NoDealing (al_nil)) (al_cons n_NoDealing i_NoDealing_ValueError (al_nil)) (al_nil)))))))) (sjs_one (sj_ret (ej_tup (aj_cons (ej_str) (aj_cons (ej_non) (aj_nil)))))) (sjs_nil)) (sjs_one (sj_ret (ej_tup (aj_cons (ej_ix (ej_lst (aj_cons (ej_str) (aj_cons (ej_str) (aj_nil)))) (ej_m kpL mk_index PySem.F.plainAttrs_list PySem.F.slot_list_index PySem.F.type_list_index (mt_indexD (units65 hr)) (ej_var 5) (aj_cons (ej_bl) (aj_nil)))) (aj_cons (ej_non) (aj_nil)))))))))))))
theorem ok_law_e_said {P : Program} {w : World} {K : PySem.W.Frag} {mg : Str → Option Value} {base : Heap} (D_over_bounds : Dep P w K mg base 2 "over_bounds" ["kept", "many", "low", "high", "total", "number"] F_over_bounds) (z_ValueError : mg "ValueError" = none) (z_isinstance : mg "isinstance" = none) (z_len : mg "len" = none) {c_Clash : Addr} {c_NoBack : Addr} {c_NoDealing : Addr} {c_NoGap : Addr} {c_NoHouse : Addr} {c_NoMore : Addr} {c_NoPiece : Addr} {c_NoPlace : Addr} {c_NoRow : Addr} {c_NoRun : Addr} {c_NoShifts : Addr} {c_NoText : Addr} {c_NoWood : Addr} {c_NotOne : Addr} {c_NotRight : Addr} {c_NotWhole : Addr} {c_TooMany : Addr} {c_WoodError : Addr} (e_NoDealing_WoodError : PySem.W.exmOne K (.ref c_NoDealing) (.ref c_WoodError) = some true) (g_Clash : mg "Clash" = some (.ref c_Clash)) (g_NoBack : mg "NoBack" = some (.ref c_NoBack)) (g_NoDealing : mg "NoDealing" = some (.ref c_NoDealing)) (g_NoGap : mg "NoGap" = some (.ref c_NoGap)) (g_NoHouse : mg "NoHouse" = some (.ref c_NoHouse)) (g_NoMore : mg "NoMore" = some (.ref c_NoMore)) (g_NoPiece : mg "NoPiece" = some (.ref c_NoPiece)) (g_NoPlace : mg "NoPlace" = some (.ref c_NoPlace)) (g_NoRow : mg "NoRow" = some (.ref c_NoRow)) (g_NoRun : mg "NoRun" = some (.ref c_NoRun)) (g_NoShifts : mg "NoShifts" = some (.ref c_NoShifts)) (g_NoText : mg "NoText" = some (.ref c_NoText)) (g_NoWood : mg "NoWood" = some (.ref c_NoWood)) (g_NotOne : mg "NotOne" = some (.ref c_NotOne)) (g_NotRight : mg "NotRight" = some (.ref c_NotRight)) (g_NotWhole : mg "NotWhole" = some (.ref c_NotWhole)) (g_TooMany : mg "TooMany" = some (.ref c_TooMany)) (g_WoodError : mg "WoodError" = some (.ref c_WoodError)) (i_NoDealing_Clash_NoBack_NoGap_NoHouse_NoMore_NoPiece_NoRow_NoRun_NoShifts_NoText : PySem.W.kitAny K (.ref c_NoDealing) [.ref c_Clash, .ref c_NoBack, .ref c_NoGap, .ref c_NoHouse, .ref c_NoMore, .ref c_NoPiece, .ref c_NoRow, .ref c_NoRun, .ref c_NoShifts, .ref c_NoText] = some false) (i_NoDealing_NoDealing : PySem.W.kitOne K (.ref c_NoDealing) (.ref c_NoDealing) = some true) (i_NoDealing_NoPlace : PySem.W.kitOne K (.ref c_NoDealing) (.ref c_NoPlace) = some false) (i_NoDealing_NoWood_NotOne_NotRight_NotWhole_TooMany : PySem.W.kitAny K (.ref c_NoDealing) [.ref c_NoWood, .ref c_NotOne, .ref c_NotRight, .ref c_NotWhole, .ref c_TooMany] = some false) (i_NoDealing_ValueError : PySem.W.kitOne K (.ref c_NoDealing) (.type "ValueError") = some true) (n_Clash : Named K "Clash" c_Clash) (n_NoBack : Named K "NoBack" c_NoBack) (n_NoDealing : Named K "NoDealing" c_NoDealing) (n_NoGap : Named K "NoGap" c_NoGap) (n_NoHouse : Named K "NoHouse" c_NoHouse) (n_NoMore : Named K "NoMore" c_NoMore) (n_NoPiece : Named K "NoPiece" c_NoPiece) (n_NoPlace : Named K "NoPlace" c_NoPlace) (n_NoRow : Named K "NoRow" c_NoRow) (n_NoRun : Named K "NoRun" c_NoRun) (n_NoShifts : Named K "NoShifts" c_NoShifts) (n_NoText : Named K "NoText" c_NoText) (n_NoWood : Named K "NoWood" c_NoWood) (n_NotOne : Named K "NotOne" c_NotOne) (n_NotRight : Named K "NotRight" c_NotRight) (n_NotWhole : Named K "NotWhole" c_NotWhole) (n_TooMany : Named K "TooMany" c_TooMany) (n_WoodError : Named K "WoodError" c_WoodError) (xc_NoDealing : XCls K c_NoDealing) {f : Addr} {oc : Value} {od an : Option Addr} {osl : Array (Option Value)} {kV doc pm cdv ct : Value}
    (l : K.lookup f = some ⟨oc, od, .func (PySem.W.fnOf "_law_e_said" "_law_e_said" (defArgs s_law_e_said) (defBody s_law_e_said) (defScope s_law_e_said) .none kV doc pm an cdv ct), osl⟩) (c : PySem.W.codeIn K cdv "_law_e_said" = true) (kp : PySem.W.keepIn K (.ref f) = true) (hm : mg "_law_e_said" = some (.ref f)) (hn : Named K "_law_e_said" f) : Dep P w K mg base 3 "_law_e_said" ["act", "asked"] F_law_e_said :=
  dep_mk l c kp hm hn (fun _ _ _ _ _ _ us hl => match us, hl with | [_, _], _ => rfl) (fn_law_e_said D_over_bounds z_ValueError z_isinstance z_len e_NoDealing_WoodError g_Clash g_NoBack g_NoDealing g_NoGap g_NoHouse g_NoMore g_NoPiece g_NoPlace g_NoRow g_NoRun g_NoShifts g_NoText g_NoWood g_NotOne g_NotRight g_NotWhole g_TooMany g_WoodError i_NoDealing_Clash_NoBack_NoGap_NoHouse_NoMore_NoPiece_NoRow_NoRun_NoShifts_NoText i_NoDealing_NoDealing i_NoDealing_NoPlace i_NoDealing_NoWood_NotOne_NotRight_NotWhole_TooMany i_NoDealing_ValueError n_Clash n_NoBack n_NoDealing n_NoGap n_NoHouse n_NoMore n_NoPiece n_NoPlace n_NoRow n_NoRun n_NoShifts n_NoText n_NoWood n_NotOne n_NotRight n_NotWhole n_TooMany n_WoodError xc_NoDealing l c)
/-! _law_e_over -/
abbrev s_law_e_over : Stmt := top 32
def g_law_e_over : Ss := sRet (eB (on1 bLen) (aCons (eComp (iOf pL (eVar 0)) (gNm 2) (e2 opGe (eVar 2) (eVar 1)) (eVar 2) [2]) (aNil)))
def F_law_e_over : Fs := fnF 3 2 [0, 1] g_law_e_over
theorem sc_law_e_over : FnScope ["values", "number", "value"] ["values", "number"] (defScope s_law_e_over) := ⟨rfl, rfl, rfl, by decide +kernel, rfl, by decide +kernel, by decide +kernel⟩
theorem fn_law_e_over {P : Program} {w : World} {K : PySem.W.Frag} {mg : Str → Option Value} {base : Heap} (z_len : mg "len" = none) {f : Addr} {oc : Value} {od an : Option Addr} {osl : Array (Option Value)} {kV doc pm cdv ct : Value}
    (l : K.lookup f = some ⟨oc, od, .func (PySem.W.fnOf "_law_e_over" "_law_e_over" (defArgs s_law_e_over) (defBody s_law_e_over) (defScope s_law_e_over) .none kV doc pm an cdv ct), osl⟩) (c : PySem.W.codeIn K cdv "_law_e_over" = true) :
    FnG P w K mg base 1 f (PySem.W.fnOf "_law_e_over" "_law_e_over" (defArgs s_law_e_over) (defBody s_law_e_over) (defScope s_law_e_over) .none kV doc pm an cdv ct) ["values", "number"] F_law_e_over :=
  fn_g l c sc_law_e_over fun A outer s H E hr hg => by
    have nd := sc_law_e_over.nd
    have tk := tk_def (P := P) (w := w) (K := K) (mg := mg) (base := base) (N := ["values", "number", "value"]) (qual := "_law_e_over") (scope := defScope s_law_e_over) (f := f) (cd := cdv) (A := A) (outer := outer) (s := s) (H := H) (E := E)
    have po := po_def (P := P) (w := w) (K := K) (mg := mg) (base := base) (N := ["values", "number", "value"]) (qual := "_law_e_over") (scope := defScope s_law_e_over) (f := f) (cd := cdv) (A := A) (outer := outer) (s := s) (H := H) (E := E)
    unfold g_law_e_over
    exact sjs_one (sj_ret (ej_callB (cl_len) (by rfl) z_len (by rfl) (aj_cons (ej_comp (B := [0, 1]) (own := [("value", 2)]) rfl nd (cov_of (by kernel_rfl)) (ij_list (ej_var 0)) (blkOk_by (by kernel_rfl)) (fun _ _ _ _ _ => gj_nm nd) (fun _ _ _ _ _ => (cj_one (tj_cmp ok_ge (ej_var 2) (ej_var 1)))) (fun _ _ _ _ _ => (ej_var 2))) (aj_nil))))
theorem ok_law_e_over {P : Program} {w : World} {K : PySem.W.Frag} {mg : Str → Option Value} {base : Heap} (z_len : mg "len" = none) {f : Addr} {oc : Value} {od an : Option Addr} {osl : Array (Option Value)} {kV doc pm cdv ct : Value}
    (l : K.lookup f = some ⟨oc, od, .func (PySem.W.fnOf "_law_e_over" "_law_e_over" (defArgs s_law_e_over) (defBody s_law_e_over) (defScope s_law_e_over) .none kV doc pm an cdv ct), osl⟩) (c : PySem.W.codeIn K cdv "_law_e_over" = true) (kp : PySem.W.keepIn K (.ref f) = true) (hm : mg "_law_e_over" = some (.ref f)) (hn : Named K "_law_e_over" f) : Dep P w K mg base 1 "_law_e_over" ["values", "number"] F_law_e_over :=
  dep_mk l c kp hm hn (fun _ _ _ _ _ _ us hl => match us, hl with | [_, _], _ => rfl) (fn_law_e_over z_len l c)
/-! law -/
abbrev s_law : Stmt := top 33
def g_law : Ss := sSeq (sSet 1 (eCall F_law_e_pen (aCons (eVar 0) (aNil)))) (sSeq (sFor (iRng (aCons (eC (.int 6)) aNil)) (gNm 2) (sSeq (sSet 3 (eFz (eCall F_law_e_case (aMut 1 (aNil))))) (sSeq (sAsg (gTp [gNm 4, gNm 5, gNm 6, gNm 7, gNm 8]) (eVar 3)) (sSeq (sSet 9 (eFz (eCall F_law_e_dealings (aCons (eVar 5) (aCons (eVar 6) (aCons (eVar 7) (aCons (eVar 8) (aNil)))))))) (sFor (iOf pL (eFz (eCall F_law_e_numbers (aMut 1 (aCons (eVar 3) (aNil)))))) (gNm 10) (sSeq (sSet 11 (eDisp mkTup (aCons (eC (.str "dealing")) (aCons (eC .none) (aNil))))) (sSeq (sIf (e2 opNe (eVar 9) (eDisp .lst (aNil))) (sSeq (sSet 12 (eFz (eComp (iOf pL (eVar 9)) (gNm 15) (cYes) (eFz (eCall F_law_e_over (aCons (eFz (e2 opAdd (eVar 4) (eB (on1 bList) (aCons (eVar 15) (aNil))))) (aCons (eVar 10) (aNil))))) [15]))) (sSet 11 (eDisp mkTup (aCons (eC (.str "told")) (aCons (eDisp mkTup (aCons (eB (on1 bMin) (aCons (eVar 12) (aNil))) (aCons (eB (on1 bMax) (aCons (eVar 12) (aNil))) (aNil)))) (aNil)))))) (sNil)) (sSeq (sSet 13 (eFz (eB (on1 bList) (aCons (eVar 4) (aNil))))) (sSeq (sSet 14 (eFz (eCall F_law_e_said (aCons (eFn "over_bounds") (aCons (eDisp mkTup (aCons (eVar 13) (aCons (eVar 5) (aCons (eVar 6) (aCons (eVar 7) (aCons (eVar 8) (aCons (eVar 10) (aNil)))))))) (aNil)))))) (sIf (eOr (e2 opNe (eB (on1 bRepr) (aCons (eVar 14) (aNil))) (eB (on1 bRepr) (aCons (eVar 11) (aNil)))) (e2 opNe (eVar 13) (eVar 4))) (sRet (eC (.bool false))) (sNil))))))))))) (sRet (eC (.bool true))))
def F_law : Fs := fnF 16 1 [0] g_law
theorem sc_law : FnScope ["script", "pen", "turn", "case", "kept", "many", "low", "high", "total", "every", "number", "due", "some", "handed", "found", "one"] ["script"] (defScope s_law) := ⟨rfl, rfl, rfl, by decide +kernel, rfl, by decide +kernel, by decide +kernel⟩
theorem fn_law {P : Program} {w : World} {K : PySem.W.Frag} {mg : Str → Option Value} {base : Heap} (D_law_e_pen : Dep P w K mg base 1 "_law_e_pen" ["script"] F_law_e_pen) (D_law_e_case : Dep P w K mg base 3 "_law_e_case" ["pen"] F_law_e_case) (D_law_e_dealings : Dep P w K mg base 1 "_law_e_dealings" ["many", "low", "high", "total"] F_law_e_dealings) (D_law_e_numbers : Dep P w K mg base 3 "_law_e_numbers" ["pen", "case"] F_law_e_numbers) (D_law_e_over : Dep P w K mg base 1 "_law_e_over" ["values", "number"] F_law_e_over) (D_law_e_said : Dep P w K mg base 3 "_law_e_said" ["act", "asked"] F_law_e_said) (D_over_bounds : Dep P w K mg base 2 "over_bounds" ["kept", "many", "low", "high", "total", "number"] F_over_bounds) (z_list : mg "list" = none) (z_max : mg "max" = none) (z_min : mg "min" = none) (z_range : mg "range" = none) (z_repr : mg "repr" = none) {f : Addr} {oc : Value} {od an : Option Addr} {osl : Array (Option Value)} {kV doc pm cdv ct : Value}
    (l : K.lookup f = some ⟨oc, od, .func (PySem.W.fnOf "law" "law" (defArgs s_law) (defBody s_law) (defScope s_law) .none kV doc pm an cdv ct), osl⟩) (c : PySem.W.codeIn K cdv "law" = true) :
    FnG P w K mg base 4 f (PySem.W.fnOf "law" "law" (defArgs s_law) (defBody s_law) (defScope s_law) .none kV doc pm an cdv ct) ["script"] F_law :=
  fn_g l c sc_law fun A outer s H E hr hg => by
    have nd := sc_law.nd
    have tk := tk_def (P := P) (w := w) (K := K) (mg := mg) (base := base) (N := ["script", "pen", "turn", "case", "kept", "many", "low", "high", "total", "every", "number", "due", "some", "handed", "found", "one"]) (qual := "law") (scope := defScope s_law) (f := f) (cd := cdv) (A := A) (outer := outer) (s := s) (H := H) (E := E)
    have po := po_def (P := P) (w := w) (K := K) (mg := mg) (base := base) (N := ["script", "pen", "turn", "case", "kept", "many", "low", "high", "total", "every", "number", "due", "some", "handed", "found", "one"]) (qual := "law") (scope := defScope s_law) (f := f) (cd := cdv) (A := A) (outer := outer) (s := s) (H := H) (E := E)
    have d_law_e_pen := D_law_e_pen.mono (k := 3) (by decide)
    have d_law_e_case := D_law_e_case.mono (k := 3) (by decide)
    have d_law_e_dealings := D_law_e_dealings.mono (k := 3) (by decide)
    have d_law_e_numbers := D_law_e_numbers.mono (k := 3) (by decide)
    have d_law_e_over := D_law_e_over.mono (k := 3) (by decide)
    have d_law_e_said := D_law_e_said.mono (k := 3) (by decide)
    have d_over_bounds := D_over_bounds.mono (k := 3) (by decide)
    unfold g_law
    exact sjs_cons (sj_set nd (ej_dep d_law_e_pen hr hg tk (aj_cons (ej_var 0) (aj_nil)))) (sjs_cons (sj_for po rfl (ij_rng1 (by rfl) z_range (ej_int)) (gj_nm nd) (sjs_cons (sj_set nd (ej_fz (ej_dep d_law_e_case hr hg tk (aj_mut 1 (aj_nil))))) (sjs_cons (sj_asg (ej_var 3) (gj_tp rfl (gsj_cons (gj_nm nd) (gsj_cons (gj_nm nd) (gsj_cons (gj_nm nd) (gsj_cons (gj_nm nd) (gsj_cons (gj_nm nd) (gsj_nil)))))))) (sjs_cons (sj_set nd (ej_fz (ej_dep d_law_e_dealings hr hg tk (aj_cons (ej_var 5) (aj_cons (ej_var 6) (aj_cons (ej_var 7) (aj_cons (ej_var 8) (aj_nil)))))))) (sjs_one (sj_for po rfl (ij_list (ej_fz (ej_dep d_law_e_numbers hr hg tk (aj_mut 1 (aj_cons (ej_var 3) (aj_nil)))))) (gj_nm nd) (sjs_cons (sj_set nd (ej_tup (aj_cons (ej_str) (aj_cons (ej_non) (aj_nil))))) (sjs_cons (sj_if (tj_cmp (ok_ne (units_of hr)) (ej_var 9) (ej_lst (aj_nil))) (sjs_cons (sj_compF (B := [0, 1, 2, 3, 4, 5, 6, 7, 8, 9, 10, 11, 12, 13, 14]) (own := [("one", 15)]) rfl nd (i := 12) (by decide) (by rfl) (by rfl) (sw_true rfl (by rfl) (by rfl) (by rfl)) (cov_of (by kernel_rfl)) (ij_list (ej_var 9)) (blkOk_by (by kernel_rfl)) (fun _ _ _ _ _ => gj_nm nd) (fun _ _ _ _ _ => (cj_nil)) (fun _ _ _ _ _ => (ej_fz (ej_dep d_law_e_over hr hg tk0 (aj_cons (ej_fz (ej_op ok_add (ej_var 4) (ej_callTy (cl_list) (by rfl) z_list (by rfl) (aj_cons (ej_var 15) (aj_nil))))) (aj_cons (ej_var 10) (aj_nil))))))) (sjs_one (sj_set nd (ej_tup (aj_cons (ej_str) (aj_cons (ej_tup (aj_cons (ej_callB (cl_min rfl) (by rfl) z_min (by rfl) (aj_cons (ej_var 12) (aj_nil))) (aj_cons (ej_callB (cl_max rfl) (by rfl) z_max (by rfl) (aj_cons (ej_var 12) (aj_nil))) (aj_nil)))) (aj_nil))))))) (sjs_nil)) (sjs_cons (sj_set nd (ej_fz (ej_callTy (cl_list) (by rfl) z_list (by rfl) (aj_cons (ej_var 4) (aj_nil))))) (sjs_cons (sj_set nd (ej_fz (ej_dep d_law_e_said hr hg tk (aj_cons (ej_fn d_over_bounds) (aj_cons (ej_tup (aj_cons (ej_var 13) (aj_cons (ej_var 5) (aj_cons (ej_var 6) (aj_cons (ej_var 7) (aj_cons (ej_var 8) (aj_cons (ej_var 10) (aj_nil)))))))) (aj_nil)))))) (sjs_one (sj_if (tj_of (wj_or (tj_cmp (ok_ne (units_of hr)) (ej_callB (cl_repr hg (units_of hr)) (by rfl) z_repr (by rfl) (aj_cons (ej_var 14) (aj_nil))) (ej_callB (cl_repr hg (units_of hr)) (by rfl) z_repr (by rfl) (aj_cons (ej_var 11) (aj_nil)))) (wj_or1 (tj_cmp (ok_ne (units_of hr)) (ej_var 13) (ej_var 4))))) (sjs_one (sj_ret (ej_bl))) (sjs_nil))))))))))))) (sjs_one (sj_ret (ej_bl))))
end k62

namespace PM
/-- how many are no less than x -/
def ov (x : Int) (vs : List Int) : Nat := vs.countP (fun v => decide (x ≤ v))
def Dealing (many : Nat) (low high : Int) (tot : Option Int) (vs : List Int) : Prop := vs.length = many ∧ (∀ v ∈ vs, low ≤ v ∧ v ≤ high) ∧ ∀ t, tot = some t → vs.sum = t
theorem sum_ge {low : Int} : ∀ {vs : List Int}, (∀ v ∈ vs, low ≤ v) → vs.length * low ≤ vs.sum
  | [], _ => by simp
  | v :: vs, h => by
    have a := sum_ge (vs := vs) fun x hx => h x (List.mem_cons_of_mem _ hx)
    have b := h v List.mem_cons_self
    rw [List.length_cons, List.sum_cons, Int.natCast_succ, Int.add_mul]
    omega
theorem sum_le {high : Int} : ∀ {vs : List Int}, (∀ v ∈ vs, v ≤ high) → vs.sum ≤ vs.length * high
  | [], _ => by simp
  | v :: vs, h => by
    have a := sum_le (vs := vs) fun x hx => h x (List.mem_cons_of_mem _ hx)
    have b := h v List.mem_cons_self
    rw [List.length_cons, List.sum_cons, Int.natCast_succ, Int.add_mul]
    omega
/-- the least that k values that are no less than x, m in all, come to -/
theorem sum_ov_ge {low x : Int} : ∀ {vs : List Int}, (∀ v ∈ vs, low ≤ v) → (ov x vs : Int) * max low x + ((vs.length : Int) - ov x vs) * low ≤ vs.sum
  | [], _ => by simp [ov]
  | v :: vs, h => by
    have a := sum_ov_ge (x := x) (vs := vs) fun y hy => h y (List.mem_cons_of_mem _ hy)
    have b := h v List.mem_cons_self
    unfold ov at a ⊢
    rw [List.countP_cons, List.length_cons, List.sum_cons]
    by_cases c : x ≤ v
    · simp only [decide_eq_true c, if_true, Int.natCast_add, Int.natCast_succ, Int.add_mul, Int.sub_mul] at a ⊢
      have : max low x ≤ v := by omega
      omega
    · simp only [c, decide_false, Bool.false_eq_true, if_false, Int.natCast_add, Int.natCast_succ, Int.add_mul, Int.sub_mul] at a ⊢
      simp only [Int.natCast_zero, Int.zero_add, Int.zero_mul] at *
      omega
theorem sum_ov_le {high x : Int} : ∀ {vs : List Int}, (∀ v ∈ vs, v ≤ high) → vs.sum ≤ (ov x vs : Int) * high + ((vs.length : Int) - ov x vs) * min high (x - 1)
  | [], _ => by simp [ov]
  | v :: vs, h => by
    have a := sum_ov_le (x := x) (vs := vs) fun y hy => h y (List.mem_cons_of_mem _ hy)
    have b := h v List.mem_cons_self
    unfold ov at a ⊢
    rw [List.countP_cons, List.length_cons, List.sum_cons]
    by_cases c : x ≤ v
    · simp only [decide_eq_true c, if_true, Int.natCast_add, Int.natCast_succ, Int.add_mul, Int.sub_mul] at a ⊢
      omega
    · simp only [c, decide_false, Bool.false_eq_true, if_false, Int.natCast_add, Int.natCast_succ, Int.add_mul, Int.sub_mul] at a ⊢
      simp only [Int.natCast_zero, Int.zero_add, Int.zero_mul] at *
      have : v ≤ min high (x - 1) := by omega
      omega
/-- the program's reckoning -/
def leastOver (many : Nat) (low high total x : Int) : Int := if x ≤ low then many else if high < x then 0 else max 0 (0 - (0 - (total - many * (x - 1))) / (high - x + 1))
theorem ceil_le {l d k : Int} (hd : 0 < d) : 0 - (0 - l) / d ≤ k ↔ l ≤ k * d := by
  have h : (-k ≤ (0 - l) / d) ↔ -k * d ≤ 0 - l := Int.le_ediv_iff_mul_le hd
  rw [Int.neg_mul] at h
  omega
theorem lo_le {many : Nat} {low high total x : Int} (ht : total ≤ many * high) (hx : low < x) (hx2 : x ≤ high) : leastOver many low high total x ≤ many := by
  unfold leastOver
  rw [if_neg (by omega), if_neg (by omega)]
  have : 0 - (0 - (total - many * (x - 1))) / (high - x + 1) ≤ many := (ceil_le (by omega)).mpr (by
    rw [Int.mul_add, Int.mul_sub, Int.mul_sub, Int.mul_one] ; omega)
  omega
theorem lo_nonneg {many : Nat} {low high total x : Int} : 0 ≤ leastOver many low high total x := by
  unfold leastOver
  split
  · omega
  · split <;> omega
theorem lo_bound {many : Nat} {low high total x : Int} (ht : total ≤ many * high) : leastOver many low high total x ≤ many := by
  by_cases h1 : x ≤ low
  · unfold leastOver; rw [if_pos h1]; omega
  · by_cases h2 : high < x
    · unfold leastOver; rw [if_neg h1, if_pos h2]; omega
    · exact lo_le ht (by omega) (by omega)
/-- no fewer -/
theorem lo_least {many : Nat} {low high total x k : Int} (hk : k < leastOver many low high total x) (h0 : 0 ≤ k) (hm : k ≤ many) (hl : (many - k) > 0 → low ≤ min high (x - 1)) (ht : total ≤ k * high + (many - k) * min high (x - 1)) : False := by
  unfold leastOver at hk
  split at hk
  · have := hl (by omega)
    omega
  · split at hk
    · omega
    · rename_i h1 h2
      have hmin : min high (x - 1) = x - 1 := by omega
      rw [hmin] at ht
      have : 0 - (0 - (total - many * (x - 1))) / (high - x + 1) ≤ k := (ceil_le (by omega)).mpr (by
        rw [Int.sub_mul] at ht
        rw [Int.mul_add, Int.mul_sub, Int.mul_one]
        rw [Int.mul_sub, Int.mul_one] at ht ⊢
        rw [Int.mul_sub, Int.mul_one] at ht
        omega)
      omega
/-- so many do -/
theorem lo_does {many : Nat} {low high total x : Int} (hlow : many * low ≤ total) (ht : total ≤ many * high) :
    let k := leastOver many low high total x
    (many - k) * low + k * max low x ≤ total ∧ total ≤ k * high + (many - k) * min high (x - 1) ∧ (many - k > 0 → low ≤ high → low ≤ min high (x - 1)) ∧ (k > 0 → low ≤ high → max low x ≤ high) := by
  intro k
  show (many - leastOver many low high total x) * low + leastOver many low high total x * max low x ≤ total ∧ total ≤ leastOver many low high total x * high + (many - leastOver many low high total x) * min high (x - 1) ∧ (many - leastOver many low high total x > 0 → low ≤ high → low ≤ min high (x - 1)) ∧ (leastOver many low high total x > 0 → low ≤ high → max low x ≤ high)
  unfold leastOver
  split
  · rename_i h
    rw [show max low x = low by omega, Int.sub_self, Int.zero_mul, Int.zero_mul]
    refine ⟨by omega, by omega, by omega, by omega⟩
  · split
    · rename_i h1 h2
      rw [Int.sub_zero, Int.zero_mul, Int.zero_mul, show min high (x - 1) = high by omega]
      refine ⟨by omega, by omega, by omega, by omega⟩
    · rename_i h1 h2
      have hmin : min high (x - 1) = x - 1 := by omega
      have hmax : max low x = x := by omega
      rw [hmin, hmax]
      have hd : 0 < high - x + 1 := by omega
      have up : ∀ k : Int, 0 - (0 - (total - many * (x - 1))) / (high - x + 1) ≤ k → total ≤ k * high + (many - k) * (x - 1) := fun k hk => by
        have := (ceil_le hd).mp hk
        rw [Int.sub_mul]
        rw [Int.mul_add, Int.mul_sub, Int.mul_one] at this
        rw [Int.mul_sub, Int.mul_one] at this ⊢
        rw [Int.mul_sub, Int.mul_one]
        omega
      by_cases hp : 0 - (0 - (total - many * (x - 1))) / (high - x + 1) ≤ 0
      · rw [show max 0 (0 - (0 - (total - many * (x - 1))) / (high - x + 1)) = 0 by omega]
        have := up 0 hp
        refine ⟨by rw [Int.sub_zero, Int.zero_mul]; omega, this, by omega, by omega⟩
      · generalize hk : 0 - (0 - (total - many * (x - 1))) / (high - x + 1) = k at hp up
        rw [show max 0 k = k by omega]
        refine ⟨?_, up k (Int.le_refl _), by omega, by omega⟩
        -- one fewer does not do
        have no : ¬ 0 - (0 - (total - many * (x - 1))) / (high - x + 1) ≤ k - 1 := by omega
        rw [ceil_le hd] at no
        have no : (k - 1) * (high - x + 1) < total - many * (x - 1) := by omega
        have e1 : (k - 1) * (high - x + 1) = k * high - k * x + k - high + x - 1 := by
          rw [Int.sub_mul, Int.mul_add, Int.mul_sub, Int.mul_one, Int.one_mul]; omega
        rw [e1] at no
        rw [Int.mul_sub, Int.mul_one] at no
        have e2 : (many - k) * low ≤ (many - k) * (x - 1) := by
          apply Int.mul_le_mul_of_nonneg_left (by omega)
          have : k ≤ many := by
            have := lo_le (many := many) (low := low) (high := high) (total := total) (x := x) ht (by omega) (by omega)
            unfold leastOver at this
            rw [if_neg (by omega), if_neg (by omega), hk] at this
            omega
          omega
        rw [Int.sub_mul (many : Int) k (x - 1), Int.mul_sub, Int.mul_sub, Int.mul_one, Int.mul_one] at e2
        have e3 : k * x ≤ k * high := Int.mul_le_mul_of_nonneg_left (by omega) (by omega)
        have e4 : k * high - k * x - (high - x) ≥ 0 := by
          have : (k - 1) * (high - x) ≥ 0 := Int.mul_nonneg (by omega) (by omega)
          rw [Int.sub_mul, Int.mul_sub, Int.one_mul] at this
          omega
        omega
end PM

namespace PM
/-- how many are at most x -/
def un (x : Int) (vs : List Int) : Nat := vs.countP (fun v => decide (v ≤ x))
def heldLow (kept : List Int) (place v : Int) : Int := max 0 (place + 1 - un v kept)
def canLow (kept : List Int) (many : Nat) (low high total place v : Int) : Bool :=
  if heldLow kept place v > many ∨ heldLow kept place v > 0 ∧ v < low then false else decide (heldLow kept place v * min v high + (many - heldLow kept place v) * high ≥ total)
theorem un_mono {x y : Int} (h : x ≤ y) (vs : List Int) : un x vs ≤ un y vs := List.countP_mono_left fun v _ k => by
  have := of_decide_eq_true k
  exact decide_eq_true (by omega)
theorem un_le (x : Int) (vs : List Int) : un x vs ≤ vs.length := List.countP_le_length
theorem ov_le (x : Int) (vs : List Int) : ov x vs ≤ vs.length := List.countP_le_length
theorem un_append (x : Int) (a b : List Int) : un x (a ++ b) = un x a + un x b := List.countP_append
theorem ov_append (x : Int) (a b : List Int) : ov x (a ++ b) = ov x a + ov x b := List.countP_append
theorem un_perm {x : Int} {a b : List Int} (h : a.Perm b) : un x a = un x b := h.countP_eq _
theorem ov_perm {x : Int} {a b : List Int} (h : a.Perm b) : ov x a = ov x b := h.countP_eq _
theorem ov_un {x : Int} : ∀ vs : List Int, ov x vs + un (x - 1) vs = vs.length
  | [] => rfl
  | v :: vs => by
    have a := ov_un (x := x) vs
    unfold ov un at a ⊢
    rw [List.countP_cons, List.countP_cons, List.length_cons]
    by_cases c : x ≤ v
    · have d : ¬ v ≤ x - 1 := by omega
      simp only [c, d, decide_true, decide_false, if_true, Bool.false_eq_true, if_false]
      omega
    · have d : v ≤ x - 1 := by omega
      simp only [c, d, decide_true, decide_false, if_true, Bool.false_eq_true, if_false]
      omega
theorem ov_neg {x : Int} : ∀ vs : List Int, ov x (vs.map (fun v => 0 - v)) = un (0 - x) vs
  | [] => rfl
  | v :: vs => by
    have a := ov_neg (x := x) vs
    unfold ov un at a ⊢
    rw [List.map_cons, List.countP_cons, List.countP_cons, a]
    by_cases c : x ≤ 0 - v
    · have d : v ≤ 0 - x := by omega
      simp only [c, d]
    · have d : ¬ v ≤ 0 - x := by omega
      simp only [c, d]
theorem un_neg {x : Int} : ∀ vs : List Int, un x (vs.map (fun v => 0 - v)) = ov (0 - x) vs
  | [] => rfl
  | v :: vs => by
    have a := un_neg (x := x) vs
    unfold ov un at a ⊢
    rw [List.map_cons, List.countP_cons, List.countP_cons, a]
    by_cases c : 0 - v ≤ x
    · have d : 0 - x ≤ v := by omega
      simp only [c, d]
    · have d : ¬ 0 - x ≤ v := by omega
      simp only [c, d]
theorem sum_neg : ∀ vs : List Int, (vs.map (fun v => 0 - v)).sum = 0 - vs.sum
  | [] => rfl
  | v :: vs => by
    rw [List.map_cons, List.sum_cons, List.sum_cons, sum_neg vs]; omega
/-- the greatest that values come to, k of which at least are at most x -/
theorem sum_un_le {high x : Int} {vs : List Int} (h : ∀ v ∈ vs, v ≤ high) {k : Int} (hk : k ≤ un x vs) : vs.sum ≤ k * min x high + ((vs.length : Int) - k) * high := by
  have base : vs.sum ≤ (un x vs : Int) * min x high + ((vs.length : Int) - un x vs) * high := by
    have a := sum_ov_le (x := x + 1) h
    have b := ov_un (x := x + 1) vs
    rw [show x + 1 - 1 = x by omega] at a b
    rw [show (un x vs : Int) = vs.length - ov (x + 1) vs by omega, show ((vs.length : Int) - ((vs.length : Int) - ov (x + 1) vs)) = ov (x + 1) vs by omega, show min x high = min high x by omega]
    omega
  have d : (un x vs - k : Int) * min x high ≤ (un x vs - k : Int) * high := Int.mul_le_mul_of_nonneg_left (by omega) (by omega)
  rw [Int.sub_mul] at base d ⊢
  rw [Int.sub_mul] at d
  omega
theorem canLow_true {kept : List Int} {many : Nat} {low high total place v : Int} (h : canLow kept many low high total place v = true) :
    heldLow kept place v ≤ many ∧ (heldLow kept place v > 0 → low ≤ v) ∧ total ≤ heldLow kept place v * min v high + (many - heldLow kept place v) * high := by
  unfold canLow at h
  split at h
  · cases h
  · rename_i n
    have := of_decide_eq_true h
    refine ⟨by omega, by omega, by omega⟩
theorem canLow_of {kept : List Int} {many : Nat} {low high total place v : Int} (h1 : heldLow kept place v ≤ many) (h2 : heldLow kept place v > 0 → low ≤ v) (h3 : total ≤ heldLow kept place v * min v high + (many - heldLow kept place v) * high) :
    canLow kept many low high total place v = true := by
  unfold canLow
  rw [if_neg (by omega), decide_eq_true (by omega)]
/-- a dealing by which the one at the place is at most v shows that it can be -/
theorem can_of {kept told : List Int} {low high place v : Int} (hb : ∀ x ∈ told, low ≤ x ∧ x ≤ high) (hu : place + 1 ≤ un v (kept ++ told)) : canLow kept told.length low high told.sum place v = true := by
  rw [un_append] at hu
  have hk : heldLow kept place v ≤ un v told := by unfold heldLow; omega
  refine canLow_of ?_ (fun h => ?_) (sum_un_le (fun x hx => (hb x hx).2) hk)
  · have := un_le v told; omega
  · have : 0 < un v told := by omega
    obtain ⟨y, hy, hv⟩ := List.countP_pos_iff.mp this
    have := of_decide_eq_true hv
    have := (hb y hy).1
    omega
/-- sorted: the one at a place is at most x where so many are -/
theorem at_un {x : Int} : ∀ {s : List Int} {i : Nat} (hi : i < s.length), s.Pairwise (· ≤ ·) → (s[i] ≤ x ↔ i + 1 ≤ un x s)
  | [], _, h, _ => absurd h (by simp)
  | a :: r, i, h, hs => by
    obtain ⟨h1, h2⟩ := List.pairwise_cons.mp hs
    by_cases c : a ≤ x
    · have e : un x (a :: r) = un x r + 1 := by
        unfold un; rw [List.countP_cons]; simp [c]
      rw [e]
      cases i with
      | zero => simp [c]
      | succ i =>
        rw [List.getElem_cons_succ, at_un (by simpa using h) h2]
        omega
    · have z : un x (a :: r) = 0 := by
        unfold un
        rw [List.countP_eq_zero]
        intro y hy
        rw [decide_eq_true_eq]
        rcases List.mem_cons.mp hy with rfl | hy
        · exact c
        · have := h1 y hy; omega
      rw [z]
      have : a ≤ (a :: r)[i] := by
        cases i with
        | zero => exact Int.le_refl _
        | succ i => rw [List.getElem_cons_succ]; exact h1 _ (List.getElem_mem _)
      omega
theorem at_ov {x : Int} {s : List Int} {i : Nat} (hi : i < s.length) (hs : s.Pairwise (· ≤ ·)) : x ≤ s[i] ↔ s.length - i ≤ ov x s := by
  have a := at_un (x := x - 1) hi hs
  have b := ov_un (x := x) s
  omega
/-- the least of all -/
theorem low_right {kept told s : List Int} {low high v : Int} {place : Nat} (hb : ∀ x ∈ told, low ≤ x ∧ x ≤ high) (hs : s.Pairwise (· ≤ ·)) (hp : s.Perm (kept ++ told)) (hi : place < s.length)
    (hu : heldLow kept place v ≤ un v told) (hn : canLow kept told.length low high told.sum place (v - 1) = false) : s[place] = v := by
  have a : s[place] ≤ v := (at_un hi hs).mpr (by rw [un_perm hp, un_append]; unfold heldLow at hu; omega)
  have b : ¬ s[place] ≤ v - 1 := fun h => by
    have z := (at_un hi hs).mp h
    rw [un_perm hp] at z
    rw [can_of hb (by omega)] at hn
    cases hn
  omega
/-- the most of all, by the others -/
theorem high_right {kept told s : List Int} {low high v : Int} {place : Nat} (hb : ∀ x ∈ told, 0 - high ≤ x ∧ x ≤ 0 - low) (hs : s.Pairwise (· ≤ ·)) (hp : s.Perm (kept ++ told.map fun v => 0 - v)) (hi : place < s.length)
    (hu : heldLow (kept.map fun v => 0 - v) (kept.length + told.length - 1 - place) v ≤ un v told) (hn : canLow (kept.map fun v => 0 - v) told.length (0 - high) (0 - low) told.sum (kept.length + told.length - 1 - place) (v - 1) = false) : s[place] = 0 - v := by
  have hl : s.length = kept.length + told.length := by rw [hp.length_eq]; simp
  have e : ∀ x, ov x s = un (0 - x) (kept.map (fun v => 0 - v) ++ told) := fun x => by
    rw [ov_perm hp, ov_append, ov_neg, un_append, un_neg, show 0 - (0 - x) = x by omega]
  have a : 0 - v ≤ s[place] := (at_ov hi hs).mpr (by
    rw [e, un_append, show 0 - (0 - v) = v by omega]
    unfold heldLow at hu
    omega)
  have b : ¬ 0 - v + 1 ≤ s[place] := fun h => by
    have z := (at_ov hi hs).mp h
    rw [e, show 0 - (0 - v + 1) = v - 1 by omega] at z
    rw [can_of hb (by omega)] at hn
    cases hn
  omega
end PM

namespace PM
theorem canLow_mono {kept : List Int} {many : Nat} {low high total place v w : Int} (h : v ≤ w) (c : canLow kept many low high total place v = true) : canLow kept many low high total place w = true := by
  obtain ⟨a, b, d⟩ := canLow_true c
  have u := un_mono h kept
  have hw : heldLow kept place w ≤ heldLow kept place v := by unfold heldLow; omega
  have h0 : 0 ≤ heldLow kept place w := by unfold heldLow; omega
  refine canLow_of (by omega) (fun z => ?_) ?_
  · have := b (by omega); omega
  · generalize heldLow kept place w = p at *
    generalize heldLow kept place v = q at *
    have e1 : p * (high - min w high) ≤ p * (high - min v high) := Int.mul_le_mul_of_nonneg_left (by omega) h0
    have e2 : p * (high - min v high) ≤ q * (high - min v high) := Int.mul_le_mul_of_nonneg_right hw (by omega)
    rw [Int.mul_sub, Int.mul_sub] at e1
    rw [Int.mul_sub, Int.mul_sub] at e2
    rw [Int.sub_mul] at d ⊢
    omega
theorem canLow_one {kept : List Int} {many : Nat} {low high total place v w : Int} (a : canLow kept many low high total place v = true) (b : canLow kept many low high total place (v - 1) = false)
    (c : canLow kept many low high total place w = true) (d : canLow kept many low high total place (w - 1) = false) : v = w := by
  by_cases h : v ≤ w - 1
  · rw [canLow_mono h a] at d; cases d
  · by_cases k : w ≤ v - 1
    · rw [canLow_mono k c] at b; cases b
    · omega
end PM

namespace PM
/-- numbers within bounds that come to a sum -/
theorem fill {lo hi : Int} (h : lo ≤ hi) : ∀ (n : Nat) (s : Int), n * lo ≤ s → s ≤ n * hi → ∃ a : List Int, a.length = n ∧ (∀ v ∈ a, lo ≤ v ∧ v ≤ hi) ∧ a.sum = s
  | 0, s, h1, h2 => ⟨[], rfl, (by intro v hv; cases hv), by simp at h1 h2 ⊢; omega⟩
  | n + 1, s, h1, h2 => by
    rw [Int.natCast_succ, Int.add_mul, Int.one_mul] at h1 h2
    have p : (n : Int) * lo ≤ n * hi := Int.mul_le_mul_of_nonneg_left h (by omega)
    obtain ⟨a, a1, a2, a3⟩ := fill h n (s - max lo (s - n * hi)) (by omega) (by omega)
    refine ⟨max lo (s - n * hi) :: a, by simp [a1], fun v hv => ?_, by rw [List.sum_cons, a3]; omega⟩
    rcases List.mem_cons.mp hv with rfl | hv
    · omega
    · exact a2 v hv
theorem fill0 {lo hi : Int} (n : Nat) (s : Int) (h : 0 < n → lo ≤ hi) (h1 : n * lo ≤ s) (h2 : s ≤ n * hi) : ∃ a : List Int, a.length = n ∧ (∀ v ∈ a, lo ≤ v ∧ v ≤ hi) ∧ a.sum = s := by
  cases n with
  | zero => exact ⟨[], rfl, (by intro v hv; cases hv), by simp at h1 h2 ⊢; omega⟩
  | succ n => exact fill (h (Nat.succ_pos n)) _ s h1 h2
/-- of two kinds -/
theorem fill2 {lo1 hi1 lo2 hi2 s : Int} (n1 n2 : Nat) (h : 0 < n1 → lo1 ≤ hi1) (k : 0 < n2 → lo2 ≤ hi2) (h1 : n1 * lo1 + n2 * lo2 ≤ s) (h2 : s ≤ n1 * hi1 + n2 * hi2) :
    ∃ a b : List Int, a.length = n1 ∧ b.length = n2 ∧ (∀ v ∈ a, lo1 ≤ v ∧ v ≤ hi1) ∧ (∀ v ∈ b, lo2 ≤ v ∧ v ≤ hi2) ∧ a.sum + b.sum = s := by
  have p1 : (n1 : Int) * lo1 ≤ n1 * hi1 := by
    by_cases z : 0 < n1
    · exact Int.mul_le_mul_of_nonneg_left (h z) (by omega)
    · rw [show n1 = 0 by omega]; simp
  have p2 : (n2 : Int) * lo2 ≤ n2 * hi2 := by
    by_cases z : 0 < n2
    · exact Int.mul_le_mul_of_nonneg_left (k z) (by omega)
    · rw [show n2 = 0 by omega]; simp
  obtain ⟨a, a1, a2, a3⟩ := fill0 n1 (min (n1 * hi1) (s - n2 * lo2)) h (by omega) (by omega)
  obtain ⟨b, b1, b2, b3⟩ := fill0 n2 (s - min (n1 * hi1) (s - n2 * lo2)) k (by omega) (by omega)
  exact ⟨a, b, a1, b1, a2, b2, by omega⟩
/-- a dealing by which as few as can be are no less than x -/
theorem deal_few {many : Nat} {low high total : Int} (x : Int) (hl : low ≤ high) (t1 : many * low ≤ total) (t2 : total ≤ many * high) :
    ∃ told : List Int, told.length = many ∧ (∀ v ∈ told, low ≤ v ∧ v ≤ high) ∧ told.sum = total ∧ (ov x told : Int) = leastOver many low high total x := by
  have h0 := @lo_nonneg many low high total x
  have h1 := @lo_bound many low high total x t2
  obtain ⟨d1, d2, d3, d4⟩ := lo_does (x := x) t1 t2
  obtain ⟨k, hk⟩ : ∃ k : Nat, leastOver many low high total x = k := ⟨(leastOver many low high total x).toNat, by omega⟩
  rw [hk] at h0 h1 d1 d2 d3 d4 ⊢
  have e3 : (many : Int) - k = ((many - k : Nat) : Int) := by omega
  rw [e3] at d1 d2 d3
  obtain ⟨a, b, ha, hb, ga, gb, gs⟩ := fill2 (many - k) k (fun h => d3 (by omega) hl) (fun h => d4 (by omega) hl) d1 (by omega)
  refine ⟨a ++ b, by rw [List.length_append]; omega, fun v hv => ?_, by rw [List.sum_append]; exact gs, ?_⟩
  · rcases List.mem_append.mp hv with h | h
    · have := ga v h; omega
    · have := gb v h; omega
  · rw [ov_append]
    have za : ov x a = 0 := by
      unfold ov
      rw [List.countP_eq_zero]
      intro v hv
      have := ga v hv
      simp
      omega
    have zb : ov x b = b.length := by
      unfold ov
      rw [List.countP_eq_length]
      intro v hv
      have := gb v hv
      simp
      omega
    rw [za, zb, hb]
    omega
/-- no dealing has fewer -/
theorem deal_least {low high x T : Int} {told : List Int} (hT : T ≤ told.sum) (hb : ∀ v ∈ told, low ≤ v ∧ v ≤ high) : leastOver told.length low high T x ≤ ov x told := by
  apply Classical.byContradiction
  intro h
  have h := Int.not_le.mp h
  have ol := ov_le x told
  refine lo_least h (by omega) (by omega) (fun z => ?_) (Int.le_trans hT (sum_ov_le fun v hv => (hb v hv).2))
  -- some are below x
  have u := ov_un (x := x) told
  have : 0 < un (x - 1) told := by omega
  obtain ⟨y, hy, hv⟩ := List.countP_pos_iff.mp this
  have := of_decide_eq_true hv
  have := hb y hy
  omega
end PM

namespace PM
def okV (t : List Int) (v : Int) : Bool := decide (t = []) || decide (t.getLastD 0 ≤ v)
def ext (low : Int) (n : Nat) (t : List Int) : List (List Int) := (((List.range n).map fun i : Nat => low + (i : Int)).filter (okV t)).map fun v => t ++ [v]
def allD (low : Int) (n : Nat) : Nat → List (List Int)
  | 0 => [[]]
  | j + 1 => (allD low n j).flatMap (ext low n)
theorem last_up : ∀ {t : List Int} {v : Int}, t.Pairwise (· ≤ ·) → (okV t v = true ↔ ∀ x ∈ t, x ≤ v)
  | [], v, _ => by simp [okV]
  | a :: t, v, h => by
    have hne : a :: t ≠ [] := by simp
    have e : (a :: t).getLastD 0 = (a :: t).getLast hne := by simp [List.getLastD]
    unfold okV
    rw [e]
    simp only [hne, decide_false, Bool.false_or, decide_eq_true_eq]
    constructor
    · intro k x hx
      have : x ≤ (a :: t).getLast hne := by
        obtain ⟨i, hi, rfl⟩ := List.getElem_of_mem hx
        rw [List.getLast_eq_getElem]
        by_cases z : i = (a :: t).length - 1
        · subst z; exact Int.le_refl _
        · exact List.pairwise_iff_getElem.mp h _ _ hi (by omega) (by omega)
      omega
    · intro k
      exact k _ (List.getLast_mem hne)
theorem mem_ext {low : Int} {n : Nat} {t u : List Int} : u ∈ ext low n t ↔ ∃ v, low ≤ v ∧ v < low + n ∧ okV t v = true ∧ u = t ++ [v] := by
  unfold ext
  constructor
  · intro h
    obtain ⟨v, hv, rfl⟩ := List.mem_map.mp h
    obtain ⟨h1, h2⟩ := List.mem_filter.mp hv
    obtain ⟨i, hi, rfl⟩ := List.mem_map.mp h1
    have := List.mem_range.mp hi
    exact ⟨_, by omega, by omega, h2, rfl⟩
  · rintro ⟨v, h1, h2, h3, rfl⟩
    refine List.mem_map.mpr ⟨v, List.mem_filter.mpr ⟨List.mem_map.mpr ⟨(v - low).toNat, List.mem_range.mpr (by omega), by omega⟩, h3⟩, rfl⟩
theorem mem_allD {low : Int} {n : Nat} : ∀ {j : Nat} {u : List Int}, u ∈ allD low n j ↔ u.Pairwise (· ≤ ·) ∧ u.length = j ∧ ∀ v ∈ u, low ≤ v ∧ v < low + n
  | 0, u => by
    unfold allD
    constructor
    · intro h
      rw [List.mem_singleton.mp h]
      simp
    · rintro ⟨_, h, _⟩
      rw [List.length_eq_zero_iff.mp h]
      simp
  | j + 1, u => by
    unfold allD
    rw [List.mem_flatMap]
    constructor
    · rintro ⟨t, ht, hu⟩
      obtain ⟨p1, p2, p3⟩ := mem_allD.mp ht
      obtain ⟨v, v1, v2, v3, rfl⟩ := mem_ext.mp hu
      refine ⟨List.pairwise_append.mpr ⟨p1, by simp, fun x hx y hy => ?_⟩, by simp [p2], fun y hy => ?_⟩
      · rw [List.mem_singleton.mp hy]
        exact (last_up p1).mp v3 x hx
      · rcases List.mem_append.mp hy with hy | hy
        · exact p3 y hy
        · rw [List.mem_singleton.mp hy]; exact ⟨v1, v2⟩
    · rintro ⟨p1, p2, p3⟩
      have hne : u ≠ [] := fun z => by rw [z] at p2; cases p2
      have e := List.dropLast_concat_getLast hne
      rw [← e] at p1
      obtain ⟨q1, _, q3⟩ := List.pairwise_append.mp p1
      have hl := p3 _ (List.getLast_mem hne)
      refine ⟨u.dropLast, mem_allD.mpr ⟨q1, by rw [List.length_dropLast, p2]; omega, fun v hv => p3 v (List.dropLast_subset _ hv)⟩, mem_ext.mpr ⟨u.getLast hne, hl.1, hl.2, (last_up q1).mpr fun x hx => q3 x hx _ (by simp), e.symm⟩⟩
theorem len_ext (low : Int) (n : Nat) (t : List Int) : (ext low n t).length ≤ n := by
  unfold ext
  rw [List.length_map]
  exact Nat.le_trans (List.length_filter_le _ _) (by simp)
theorem len_flat {α β : Type} (f : α → List β) (n : Nat) (h : ∀ x, (f x).length ≤ n) : ∀ xs : List α, (xs.flatMap f).length ≤ xs.length * n
  | [] => by simp
  | x :: xs => by
    rw [List.flatMap_cons, List.length_append, List.length_cons, Nat.succ_mul]
    have := h x
    have := len_flat f n h xs
    omega
theorem len_allD (low : Int) (n : Nat) : ∀ j, (allD low n j).length ≤ n ^ j
  | 0 => by simp [allD]
  | j + 1 => by
    unfold allD
    rw [Nat.pow_succ]
    exact Nat.le_trans (len_flat _ n (len_ext low n) _) (Nat.mul_le_mul_right _ (len_allD low n j))
end PM

set_option Elab.async false
set_option linter.all false
set_option maxRecDepth 100000
set_option backward.isDefEq.respectTransparency false
set_option maxHeartbeats 4000000
namespace k62
open PySem PySem.Spec VS
theorem e_pen {ns : List Int} {Q : Fo → Prop} (hQ : ∀ cs : List Int, cs.length ≤ 63 → Q (.ret (feedT cs 0 0) [.scr ns])) : WF F_law_e_pen [.scr ns] Q := by
  unfold F_law_e_pen
  rw [w_fn (by rfl)]
  unfold g_law_e_pen
  have s3 : 3 ≤ sizeLine := by simp [PySem.sizeLine_eq]
  simp only [allDat_map, toDs_map, s3, ↓VS.w_var, ↓VS.w_mv, ↓VS.w_c, ↓VS.w_2, ↓VS.w_and, ↓VS.w_or, ↓VS.w_not, ↓VS.w_if, ↓VS.w_ch, ↓VS.w_neg, ↓VS.w_fz, ↓VS.w_nil, ↓VS.w_cons, ↓VS.w_amut, ↓VS.w_disp, ↓VS.w_b, ↓VS.w_isi, ↓VS.w_call, ↓VS.w_rev, ↓VS.w_sl, ↓VS.w_mut, ↓VS.w_snil, ↓VS.w_seq, ↓VS.w_set, ↓VS.w_ret, ↓VS.w_expr, ↓VS.w_ifs, ↓VS.w_asg, ↓VS.w_sto, ↓VS.w_for, ↓VS.w_iof, ↓VS.w_rng, ↓VS.w_isx, ↓VS.w_efn, ↓VS.w_try, ↓VS.w_raise, ↓VS.w_m, ↓VS.w_callV, ↓VS.w_comp, ↓VS.w_yes, ↓VS.wO_some, ↓VS.wO_none, ↓VS.wO_map, ↓VS.wO_ite, VS.kMv, VS.k2b, VS.k2, VS.kQ, VS.kAnd, VS.kOr, VS.kNot, VS.kIf, VS.kChc, VS.kChb, VS.kCh, VS.kNeg, VS.frzV, VS.kFz, VS.kConsB, VS.kCons, VS.kMutA, VS.kUn, VS.kDisp, VS.kB, VS.kIsi, VS.kFo, VS.kCall, VS.kRev, VS.kPartB, VS.kPart, VS.kSlc, VS.kSlb, VS.kSl, VS.kMutT, VS.kMutR, VS.kSeq, VS.kSet, VS.kRet, VS.kExpr, VS.kIfS, VS.kAsg, VS.kStoT, VS.kStoI, VS.kSto, VS.kFor, VS.kOf, VS.kRng, VS.kFn, VS.kCompQ, VS.kComp, VS.kIsx, VS.kTry, VS.exName, VS.kM, VS.kMb, VS.kCv, VS.frz, VS.on1, VS.on2, VS.oErr, VS.opSl, VS.opRev, VS.isL, VS.isDc, VS.moAppend, VS.stL, VS.keeps, VS.keep, VS.mkTup, VS.allDat, VS.mkV, VS.pD, VS.pL, VS.pTu, VS.pI, VS.pB, VS.PV.tr, VS.PV.held, VS.toD, VS.toDs, VS.elems, VS.telems, VS.opI, VS.opB, VS.opAdd, VS.opEq, VS.opNe, VS.opIs, VS.opIsNot, VS.isNonT, VS.opIx, VS.subT, VS.datV, VS.ms, VS.noVw, VS.arT, VS.arTs, VS.okM, VS.putM, VS.unM, VS.valsA, VS.argsOut, VS.gNm, VS.gTp, VS.gEach, VS.kidsT, VS.tyT, VS.isTy, VS.bLen, VS.seqN, VS.seqD, VS.bList, VS.bRepr, VS.inR, VS.bSum2, VS.pTi, VS.bIndex, VS.bCount, VS.isLi, VS.opRg, VS.sh_int, VS.sh_bl, VS.sh_str, VS.sh_non, VS.eqv_int, VS.eqv_bl, VS.eqv_str, List.getElem?_cons_zero, List.getElem?_cons_succ, List.length_cons, List.length_nil, List.set_cons_zero, List.set_cons_succ, List.replicate_succ, List.replicate_zero, List.cons_append, List.nil_append, List.map_cons, List.map_nil, Option.map_some, Option.map_none, Option.bind_some, Option.bind_none, if_true, if_false, Bool.true_and, Bool.and_true, Bool.false_and, Bool.and_false, Bool.or_true, Bool.true_or, Bool.false_or, Bool.or_false, List.isEmpty_nil, List.isEmpty_cons, List.nodup_nil, decide_true, Bool.false_eq_true, true_and, and_true, Nat.zero_add, Nat.reduceAdd, Nat.reduceSub, Nat.reduceLT, Option.bind_eq_bind, Option.pure_def]
  exact hQ _ (by rw [cutL_to _ (by decide), List.length_take]; omega)
theorem at_cell {cs : List Int} {x : Int} (h0 : 0 ≤ x) (h1 : x < cs.length) : ∃ c : Int, L2.atI (cs.map PyData.int) x = some (.int c) := by
  obtain ⟨y, e, m⟩ := at_mem (xs := cs.map PyData.int) h0 (by rw [List.length_map]; exact h1)
  obtain ⟨c, _, rfl⟩ := List.mem_map.mp m
  exact ⟨c, e⟩
theorem fresh_tail {c a : Int} (h0 : 0 ≤ a) (h1 : a ≤ 2 ^ 30) {one two : Int} (o1 : 0 < one) (o2 : one ≤ 2147483647) (t1 : 0 < two) (t2 : two ≤ 2147483647) :
    cPow (c % one + 31 * a + 5) 5 = true ∧ (∀ x : Int, cPow (x % one + c % two + a * a) 3 = true) ∧ (∀ x : Int, cMul (x % one + 3) two = true) := by
  have m1 := Int.emod_nonneg c (by omega : one ≠ 0)
  have m2 := Int.emod_lt_of_pos c o1
  have n1 := Int.emod_nonneg c (by omega : two ≠ 0)
  have n2 := Int.emod_lt_of_pos c t1
  refine ⟨?_, fun x => ?_, fun x => ?_⟩
  · unfold cPow
    rw [dq (show (c % one + 31 * a + 5).natAbs < 2 ^ 64 by omega)]
    decide
  · have k1 := Int.emod_nonneg x (by omega : one ≠ 0)
    have k2 := Int.emod_lt_of_pos x o1
    have aa : a * a ≤ 2 ^ 30 * a := Int.mul_le_mul_of_nonneg_right h1 h0
    have ab : 0 ≤ a * a := Int.mul_nonneg h0 h0
    unfold cPow
    rw [dq (show (x % one + c % two + a * a).natAbs < 2 ^ 64 by omega)]
    decide
  · have k1 := Int.emod_nonneg x (by omega : one ≠ 0)
    have k2 := Int.emod_lt_of_pos x o1
    exact mul_ok (by omega) (by omega)
theorem e_fresh {cs : List Int} {a b : Int} {Q : Fo → Prop} (h0 : 0 ≤ a) (h1 : a ≤ 2 ^ 30) (hcs : cs.length ≤ 63) (hQ : ∀ v, Q (.ret (.dat (.int v)) [feedT cs (a + 1) b])) : WF F_law_e_fresh [feedT cs a b] Q := by
  unfold F_law_e_fresh
  rw [w_fn (by rfl)]
  unfold g_law_e_fresh
  have pw : ((10 : Int) ^ (18 : Int).toNat) = 10 ^ 18 := rfl
  have ma : a.natAbs < 2 ^ 250 := by omega
  have q7 := Int.emod_nonneg a (by decide : (7 : Int) ≠ 0)
  have q7' := Int.emod_lt_of_pos a (by decide : (0 : Int) < 7)
  have q5 := Int.emod_nonneg a (by decide : (5 : Int) ≠ 0)
  have q5' := Int.emod_lt_of_pos a (by decide : (0 : Int) < 5)
  have tail : ∀ (c : Int) (Q' : Prop), (∀ one two : Int, 0 < one → one ≤ 2147483647 → 0 < two → two ≤ 2147483647 →
      L2.atI [T.dat (.int 2147483647), .dat (.int 2147483629), .dat (.int 2147483587), .dat (.int 2147483579), .dat (.int 2147483563), .dat (.int 2147483549), .dat (.int 2147483543)] (a % 7) = some (.dat (.int one)) →
      L2.atI [T.dat (.int 2147483497), .dat (.int 2147483489), .dat (.int 2147483477), .dat (.int 2147483423), .dat (.int 2147483399)] (a % 5) = some (.dat (.int two)) → Q') → Q' := by
    intro c Q' k
    have e7 : a % 7 = 0 ∨ a % 7 = 1 ∨ a % 7 = 2 ∨ a % 7 = 3 ∨ a % 7 = 4 ∨ a % 7 = 5 ∨ a % 7 = 6 := by omega
    have e5 : a % 5 = 0 ∨ a % 5 = 1 ∨ a % 5 = 2 ∨ a % 5 = 3 ∨ a % 5 = 4 := by omega
    obtain ⟨one, o1, o2, o3⟩ : ∃ one : Int, 0 < one ∧ one ≤ 2147483647 ∧ L2.atI [T.dat (.int 2147483647), .dat (.int 2147483629), .dat (.int 2147483587), .dat (.int 2147483579), .dat (.int 2147483563), .dat (.int 2147483549), .dat (.int 2147483543)] (a % 7) = some (.dat (.int one)) := by
      rcases e7 with h | h | h | h | h | h | h <;> rw [h] <;> exact ⟨_, by decide, by decide, rfl⟩
    obtain ⟨two, t1, t2, t3⟩ : ∃ two : Int, 0 < two ∧ two ≤ 2147483647 ∧ L2.atI [T.dat (.int 2147483497), .dat (.int 2147483489), .dat (.int 2147483477), .dat (.int 2147483423), .dat (.int 2147483399)] (a % 5) = some (.dat (.int two)) := by
      rcases e5 with h | h | h | h | h <;> rw [h] <;> exact ⟨_, by decide, by decide, rfl⟩
    exact k one two o1 o2 t1 t2 o3 t3
  have s5 : 5 ≤ sizeLine := by simp [PySem.sizeLine_eq]
  have s7 : 7 ≤ sizeLine := by simp [PySem.sizeLine_eq]
  simp only [toDs_map, toDs_ints, allDat_map, allDat_ints, eqv_ints, sh_ints, sh_nil, eqv_nil, sz_0, sz_1, sz_2, sz_3, sz_4, sz_5, sz_6, sz_7, sz_8, sz_9, sz_10, sz_11, sz_12, sz_13, sz_14, sz_15, sz_16, sz_17, sz_18, sz_19, sz_20, sz_21, sz_22, sz_23, sz_24, sz_25, sz_26, sz_27, sz_28, sz_29, sz_30, sz_31, sz_32, sz_33, sz_34, sz_35, sz_36, sz_37, sz_38, sz_39, sz_40, decide_eq_true_eq, Int.reduceLT, Int.reduceLE, Nat.reduceLeDiff, feedT, nd_one, at2_0, at2_1, at3_0, at3_1, at3_2, ix3_1, ix3_2, set3_1, set3_2, ↓VS.w_var, ↓VS.w_mv, ↓VS.w_c, ↓VS.w_2, ↓VS.w_and, ↓VS.w_or, ↓VS.w_not, ↓VS.w_if, ↓VS.w_ch, ↓VS.w_neg, ↓VS.w_fz, ↓VS.w_nil, ↓VS.w_cons, ↓VS.w_amut, ↓VS.w_disp, ↓VS.w_b, ↓VS.w_isi, ↓VS.w_call, ↓VS.w_rev, ↓VS.w_sl, ↓VS.w_mut, ↓VS.w_snil, ↓VS.w_seq, ↓VS.w_set, ↓VS.w_ret, ↓VS.w_expr, ↓VS.w_asg, ↓VS.w_sto, ↓VS.w_for, ↓VS.w_iof, ↓VS.w_rng, ↓VS.w_isx, ↓VS.w_efn, ↓VS.w_try, ↓VS.w_raise, ↓VS.w_m, ↓VS.w_callV, ↓VS.w_comp, ↓VS.w_yes, ↓VS.wO_some, ↓VS.wO_none, ↓VS.wO_map, ↓VS.wO_ite, VS.kMv, VS.k2b, VS.k2, VS.kQ, VS.kAnd, VS.kOr, VS.kNot, VS.kIf, VS.kChc, VS.kChb, VS.kCh, VS.kNeg, VS.frzV, VS.kFz, VS.kConsB, VS.kCons, VS.kMutA, VS.kUn, VS.kDisp, VS.kB, VS.kIsi, VS.kFo, VS.kCall, VS.kRev, VS.kPartB, VS.kPart, VS.kSlc, VS.kSlb, VS.kSl, VS.kMutT, VS.kMutR, VS.kSeq, VS.kSet, VS.kRet, VS.kExpr, VS.kIfS, VS.kAsg, VS.kStoT, VS.kStoI, VS.kSto, VS.kFor, VS.kOf, VS.kRng, VS.kFn, VS.kCompQ, VS.kComp, VS.kIsx, VS.kTry, VS.exName, VS.kM, VS.kMb, VS.kCv, VS.frz, VS.on1, VS.on2, VS.oErr, VS.opSl, VS.opRev, VS.isL, VS.isDc, VS.moAppend, VS.stL, VS.keeps, VS.keep, VS.mkTup, VS.allDat, VS.mkV, VS.pD, VS.pL, VS.pTu, VS.pI, VS.pB, VS.PV.tr, VS.PV.held, VS.toD, VS.toDs, VS.elems, VS.telems, VS.opI, VS.opB, VS.opAdd, VS.opEq, VS.opNe, VS.opIs, VS.opIsNot, VS.isNonT, VS.opIx, VS.subT, VS.datV, VS.ms, VS.noVw, VS.arT, VS.arTs, VS.okM, VS.putM, VS.unM, VS.valsA, VS.argsOut, VS.gNm, VS.gTp, VS.gEach, VS.kidsT, VS.tyT, VS.isTy, VS.bLen, VS.seqN, VS.seqD, VS.bList, VS.bRepr, VS.inR, VS.bSum2, VS.pTi, VS.bIndex, VS.bCount, VS.isLi, VS.opRg, VS.sh_int, VS.sh_bl, VS.sh_str, VS.sh_non, VS.eqv_int, VS.eqv_bl, VS.eqv_str, List.getElem?_cons_zero, List.getElem?_cons_succ, List.length_cons, List.length_nil, List.set_cons_zero, List.set_cons_succ, List.replicate_succ, List.replicate_zero, List.cons_append, List.nil_append, List.map_cons, List.map_nil, Option.map_some, Option.map_none, Option.bind_some, Option.bind_none, if_true, if_false, Bool.true_and, Bool.and_true, Bool.false_and, Bool.and_false, Bool.or_true, Bool.true_or, Bool.false_or, Bool.or_false, List.isEmpty_nil, List.isEmpty_cons, List.nodup_nil, decide_true, Bool.false_eq_true, true_and, and_true, Nat.zero_add, Nat.reduceAdd, Nat.reduceSub, Nat.reduceLT, Option.bind_eq_bind, Option.pure_def]
  refine w_join (fun e => ∃ c : Int, e = [T.lst [.dat (.list (cs.map .int)), .dat (.int (a + 1)), .dat (.int b)], .dat (.int a), .dat (.int c), .un, .un, .un, .un]) ?_ ?_
  · have s0 : 0 ≤ sizeLine := Nat.zero_le _
    simp only [eqv_nil, sh_ints, sh_nil, List.length_map, kI, s0, toDs_map, toDs_ints, allDat_map, allDat_ints, eqv_ints, sh_ints, sh_nil, eqv_nil, sz_0, sz_1, sz_2, sz_3, sz_4, sz_5, sz_6, sz_7, sz_8, sz_9, sz_10, sz_11, sz_12, sz_13, sz_14, sz_15, sz_16, sz_17, sz_18, sz_19, sz_20, sz_21, sz_22, sz_23, sz_24, sz_25, sz_26, sz_27, sz_28, sz_29, sz_30, sz_31, sz_32, sz_33, sz_34, sz_35, sz_36, sz_37, sz_38, sz_39, sz_40, decide_eq_true_eq, Int.reduceLT, Int.reduceLE, Nat.reduceLeDiff, feedT, nd_one, at2_0, at2_1, at3_0, at3_1, at3_2, ix3_1, ix3_2, set3_1, set3_2, ↓VS.w_var, ↓VS.w_mv, ↓VS.w_c, ↓VS.w_2, ↓VS.w_and, ↓VS.w_or, ↓VS.w_not, ↓VS.w_if, ↓VS.w_ch, ↓VS.w_neg, ↓VS.w_fz, ↓VS.w_nil, ↓VS.w_cons, ↓VS.w_amut, ↓VS.w_disp, ↓VS.w_b, ↓VS.w_isi, ↓VS.w_call, ↓VS.w_rev, ↓VS.w_sl, ↓VS.w_mut, ↓VS.w_snil, ↓VS.w_seq, ↓VS.w_set, ↓VS.w_ret, ↓VS.w_expr, ↓VS.w_ifs, ↓VS.w_asg, ↓VS.w_sto, ↓VS.w_for, ↓VS.w_iof, ↓VS.w_rng, ↓VS.w_isx, ↓VS.w_efn, ↓VS.w_try, ↓VS.w_raise, ↓VS.w_m, ↓VS.w_callV, ↓VS.w_comp, ↓VS.w_yes, ↓VS.wO_some, ↓VS.wO_none, ↓VS.wO_map, ↓VS.wO_ite, VS.kMv, VS.k2b, VS.k2, VS.kQ, VS.kAnd, VS.kOr, VS.kNot, VS.kIf, VS.kChc, VS.kChb, VS.kCh, VS.kNeg, VS.frzV, VS.kFz, VS.kConsB, VS.kCons, VS.kMutA, VS.kUn, VS.kDisp, VS.kB, VS.kIsi, VS.kFo, VS.kCall, VS.kRev, VS.kPartB, VS.kPart, VS.kSlc, VS.kSlb, VS.kSl, VS.kMutT, VS.kMutR, VS.kSeq, VS.kSet, VS.kRet, VS.kExpr, VS.kIfS, VS.kAsg, VS.kStoT, VS.kStoI, VS.kSto, VS.kFor, VS.kOf, VS.kRng, VS.kFn, VS.kCompQ, VS.kComp, VS.kIsx, VS.kTry, VS.exName, VS.kM, VS.kMb, VS.kCv, VS.frz, VS.on1, VS.on2, VS.oErr, VS.opSl, VS.opRev, VS.isL, VS.isDc, VS.moAppend, VS.stL, VS.keeps, VS.keep, VS.mkTup, VS.allDat, VS.mkV, VS.pD, VS.pL, VS.pTu, VS.pI, VS.pB, VS.PV.tr, VS.PV.held, VS.toD, VS.toDs, VS.elems, VS.telems, VS.opI, VS.opB, VS.opAdd, VS.opEq, VS.opNe, VS.opIs, VS.opIsNot, VS.isNonT, VS.opIx, VS.subT, VS.datV, VS.ms, VS.noVw, VS.arT, VS.arTs, VS.okM, VS.putM, VS.unM, VS.valsA, VS.argsOut, VS.gNm, VS.gTp, VS.gEach, VS.kidsT, VS.tyT, VS.isTy, VS.bLen, VS.seqN, VS.seqD, VS.bList, VS.bRepr, VS.inR, VS.bSum2, VS.pTi, VS.bIndex, VS.bCount, VS.isLi, VS.opRg, VS.sh_int, VS.sh_bl, VS.sh_str, VS.sh_non, VS.eqv_int, VS.eqv_bl, VS.eqv_str, List.getElem?_cons_zero, List.getElem?_cons_succ, List.length_cons, List.length_nil, List.set_cons_zero, List.set_cons_succ, List.replicate_succ, List.replicate_zero, List.cons_append, List.nil_append, List.map_cons, List.map_nil, Option.map_some, Option.map_none, Option.bind_some, Option.bind_none, if_true, if_false, Bool.true_and, Bool.and_true, Bool.false_and, Bool.and_false, Bool.or_true, Bool.true_or, Bool.false_or, Bool.or_false, List.isEmpty_nil, List.isEmpty_cons, List.nodup_nil, decide_true, Bool.false_eq_true, true_and, and_true, Nat.zero_add, Nat.reduceAdd, Nat.reduceSub, Nat.reduceLT, Option.bind_eq_bind, Option.pure_def]
    refine ite_pr (fun hc => ?_) (fun _ => ⟨0, rfl⟩)
    have hc : ¬ cs = [] := by simpa using hc
    have hl : 0 < cs.length := List.length_pos_iff.mpr hc
    have r1 := Int.emod_nonneg (a * 7) (by omega : (cs.length : Int) ≠ 0)
    have r2 := Int.emod_lt_of_pos (a * 7) (by omega : (0 : Int) < cs.length)
    obtain ⟨c, ec⟩ := at_cell r1 r2
    have dv : 0 ≤ a / (cs.length : Int) := Int.ediv_nonneg h0 (by omega)
    have dv2 : a / (cs.length : Int) ≤ a := Int.ediv_le_self _ h0
    have c1 : cMul a 7 = true := mul_ok ma (by decide)
    have c2 : cMod (a * 7) (cs.length : Int) = true := mod_ok (by omega)
    have c3 : cDiv a (cs.length : Int) = true := div_ok (by omega) (by omega)
    have c4 : cDiv c (1 + a / (cs.length : Int)) = true := div_ok (by omega) (by omega)
    simp only [ec, c1, c2, c3, c4, toDs_map, toDs_ints, allDat_map, allDat_ints, eqv_ints, sh_ints, sh_nil, eqv_nil, sz_0, sz_1, sz_2, sz_3, sz_4, sz_5, sz_6, sz_7, sz_8, sz_9, sz_10, sz_11, sz_12, sz_13, sz_14, sz_15, sz_16, sz_17, sz_18, sz_19, sz_20, sz_21, sz_22, sz_23, sz_24, sz_25, sz_26, sz_27, sz_28, sz_29, sz_30, sz_31, sz_32, sz_33, sz_34, sz_35, sz_36, sz_37, sz_38, sz_39, sz_40, decide_eq_true_eq, Int.reduceLT, Int.reduceLE, Nat.reduceLeDiff, feedT, nd_one, at2_0, at2_1, at3_0, at3_1, at3_2, ix3_1, ix3_2, set3_1, set3_2, ↓VS.w_var, ↓VS.w_mv, ↓VS.w_c, ↓VS.w_2, ↓VS.w_and, ↓VS.w_or, ↓VS.w_not, ↓VS.w_if, ↓VS.w_ch, ↓VS.w_neg, ↓VS.w_fz, ↓VS.w_nil, ↓VS.w_cons, ↓VS.w_amut, ↓VS.w_disp, ↓VS.w_b, ↓VS.w_isi, ↓VS.w_call, ↓VS.w_rev, ↓VS.w_sl, ↓VS.w_mut, ↓VS.w_snil, ↓VS.w_seq, ↓VS.w_set, ↓VS.w_ret, ↓VS.w_expr, ↓VS.w_ifs, ↓VS.w_asg, ↓VS.w_sto, ↓VS.w_for, ↓VS.w_iof, ↓VS.w_rng, ↓VS.w_isx, ↓VS.w_efn, ↓VS.w_try, ↓VS.w_raise, ↓VS.w_m, ↓VS.w_callV, ↓VS.w_comp, ↓VS.w_yes, ↓VS.wO_some, ↓VS.wO_none, ↓VS.wO_map, ↓VS.wO_ite, VS.kMv, VS.k2b, VS.k2, VS.kQ, VS.kAnd, VS.kOr, VS.kNot, VS.kIf, VS.kChc, VS.kChb, VS.kCh, VS.kNeg, VS.frzV, VS.kFz, VS.kConsB, VS.kCons, VS.kMutA, VS.kUn, VS.kDisp, VS.kB, VS.kIsi, VS.kFo, VS.kCall, VS.kRev, VS.kPartB, VS.kPart, VS.kSlc, VS.kSlb, VS.kSl, VS.kMutT, VS.kMutR, VS.kSeq, VS.kSet, VS.kRet, VS.kExpr, VS.kIfS, VS.kAsg, VS.kStoT, VS.kStoI, VS.kSto, VS.kFor, VS.kOf, VS.kRng, VS.kFn, VS.kCompQ, VS.kComp, VS.kIsx, VS.kTry, VS.exName, VS.kM, VS.kMb, VS.kCv, VS.frz, VS.on1, VS.on2, VS.oErr, VS.opSl, VS.opRev, VS.isL, VS.isDc, VS.moAppend, VS.stL, VS.keeps, VS.keep, VS.mkTup, VS.allDat, VS.mkV, VS.pD, VS.pL, VS.pTu, VS.pI, VS.pB, VS.PV.tr, VS.PV.held, VS.toD, VS.toDs, VS.elems, VS.telems, VS.opI, VS.opB, VS.opAdd, VS.opEq, VS.opNe, VS.opIs, VS.opIsNot, VS.isNonT, VS.opIx, VS.subT, VS.datV, VS.ms, VS.noVw, VS.arT, VS.arTs, VS.okM, VS.putM, VS.unM, VS.valsA, VS.argsOut, VS.gNm, VS.gTp, VS.gEach, VS.kidsT, VS.tyT, VS.isTy, VS.bLen, VS.seqN, VS.seqD, VS.bList, VS.bRepr, VS.inR, VS.bSum2, VS.pTi, VS.bIndex, VS.bCount, VS.isLi, VS.opRg, VS.sh_int, VS.sh_bl, VS.sh_str, VS.sh_non, VS.eqv_int, VS.eqv_bl, VS.eqv_str, List.getElem?_cons_zero, List.getElem?_cons_succ, List.length_cons, List.length_nil, List.set_cons_zero, List.set_cons_succ, List.replicate_succ, List.replicate_zero, List.cons_append, List.nil_append, List.map_cons, List.map_nil, Option.map_some, Option.map_none, Option.bind_some, Option.bind_none, if_true, if_false, Bool.true_and, Bool.and_true, Bool.false_and, Bool.and_false, Bool.or_true, Bool.true_or, Bool.false_or, Bool.or_false, List.isEmpty_nil, List.isEmpty_cons, List.nodup_nil, decide_true, Bool.false_eq_true, true_and, and_true, Nat.zero_add, Nat.reduceAdd, Nat.reduceSub, Nat.reduceLT, Option.bind_eq_bind, Option.pure_def]
    exact ⟨_, rfl⟩
  · rintro e ⟨c, rfl⟩
    simp only [toDs_map, toDs_ints, allDat_map, allDat_ints, eqv_ints, sh_ints, sh_nil, eqv_nil, sz_0, sz_1, sz_2, sz_3, sz_4, sz_5, sz_6, sz_7, sz_8, sz_9, sz_10, sz_11, sz_12, sz_13, sz_14, sz_15, sz_16, sz_17, sz_18, sz_19, sz_20, sz_21, sz_22, sz_23, sz_24, sz_25, sz_26, sz_27, sz_28, sz_29, sz_30, sz_31, sz_32, sz_33, sz_34, sz_35, sz_36, sz_37, sz_38, sz_39, sz_40, decide_eq_true_eq, Int.reduceLT, Int.reduceLE, Nat.reduceLeDiff, feedT, nd_one, at2_0, at2_1, at3_0, at3_1, at3_2, ix3_1, ix3_2, set3_1, set3_2, ↓VS.w_var, ↓VS.w_mv, ↓VS.w_c, ↓VS.w_2, ↓VS.w_and, ↓VS.w_or, ↓VS.w_not, ↓VS.w_if, ↓VS.w_ch, ↓VS.w_neg, ↓VS.w_fz, ↓VS.w_nil, ↓VS.w_cons, ↓VS.w_amut, ↓VS.w_disp, ↓VS.w_b, ↓VS.w_isi, ↓VS.w_call, ↓VS.w_rev, ↓VS.w_sl, ↓VS.w_mut, ↓VS.w_snil, ↓VS.w_seq, ↓VS.w_set, ↓VS.w_ret, ↓VS.w_expr, ↓VS.w_asg, ↓VS.w_sto, ↓VS.w_for, ↓VS.w_iof, ↓VS.w_rng, ↓VS.w_isx, ↓VS.w_efn, ↓VS.w_try, ↓VS.w_raise, ↓VS.w_m, ↓VS.w_callV, ↓VS.w_comp, ↓VS.w_yes, ↓VS.wO_some, ↓VS.wO_none, ↓VS.wO_map, ↓VS.wO_ite, VS.kMv, VS.k2b, VS.k2, VS.kQ, VS.kAnd, VS.kOr, VS.kNot, VS.kIf, VS.kChc, VS.kChb, VS.kCh, VS.kNeg, VS.frzV, VS.kFz, VS.kConsB, VS.kCons, VS.kMutA, VS.kUn, VS.kDisp, VS.kB, VS.kIsi, VS.kFo, VS.kCall, VS.kRev, VS.kPartB, VS.kPart, VS.kSlc, VS.kSlb, VS.kSl, VS.kMutT, VS.kMutR, VS.kSeq, VS.kSet, VS.kRet, VS.kExpr, VS.kIfS, VS.kAsg, VS.kStoT, VS.kStoI, VS.kSto, VS.kFor, VS.kOf, VS.kRng, VS.kFn, VS.kCompQ, VS.kComp, VS.kIsx, VS.kTry, VS.exName, VS.kM, VS.kMb, VS.kCv, VS.frz, VS.on1, VS.on2, VS.oErr, VS.opSl, VS.opRev, VS.isL, VS.isDc, VS.moAppend, VS.stL, VS.keeps, VS.keep, VS.mkTup, VS.allDat, VS.mkV, VS.pD, VS.pL, VS.pTu, VS.pI, VS.pB, VS.PV.tr, VS.PV.held, VS.toD, VS.toDs, VS.elems, VS.telems, VS.opI, VS.opB, VS.opAdd, VS.opEq, VS.opNe, VS.opIs, VS.opIsNot, VS.isNonT, VS.opIx, VS.subT, VS.datV, VS.ms, VS.noVw, VS.arT, VS.arTs, VS.okM, VS.putM, VS.unM, VS.valsA, VS.argsOut, VS.gNm, VS.gTp, VS.gEach, VS.kidsT, VS.tyT, VS.isTy, VS.bLen, VS.seqN, VS.seqD, VS.bList, VS.bRepr, VS.inR, VS.bSum2, VS.pTi, VS.bIndex, VS.bCount, VS.isLi, VS.opRg, VS.sh_int, VS.sh_bl, VS.sh_str, VS.sh_non, VS.eqv_int, VS.eqv_bl, VS.eqv_str, List.getElem?_cons_zero, List.getElem?_cons_succ, List.length_cons, List.length_nil, List.set_cons_zero, List.set_cons_succ, List.replicate_succ, List.replicate_zero, List.cons_append, List.nil_append, List.map_cons, List.map_nil, Option.map_some, Option.map_none, Option.bind_some, Option.bind_none, if_true, if_false, Bool.true_and, Bool.and_true, Bool.false_and, Bool.and_false, Bool.or_true, Bool.true_or, Bool.false_or, Bool.or_false, List.isEmpty_nil, List.isEmpty_cons, List.nodup_nil, decide_true, Bool.false_eq_true, true_and, and_true, Nat.zero_add, Nat.reduceAdd, Nat.reduceSub, Nat.reduceLT, Option.bind_eq_bind, Option.pure_def]
    refine w_join (fun e => ∃ c : Int, e = [T.lst [.dat (.list (cs.map .int)), .dat (.int (a + 1)), .dat (.int b)], .dat (.int a), .dat (.int c), .un, .un, .un, .un]) ?_ ?_
    · simp only [List.length_map, kI, toDs_map, toDs_ints, allDat_map, allDat_ints, eqv_ints, sh_ints, sh_nil, eqv_nil, sz_0, sz_1, sz_2, sz_3, sz_4, sz_5, sz_6, sz_7, sz_8, sz_9, sz_10, sz_11, sz_12, sz_13, sz_14, sz_15, sz_16, sz_17, sz_18, sz_19, sz_20, sz_21, sz_22, sz_23, sz_24, sz_25, sz_26, sz_27, sz_28, sz_29, sz_30, sz_31, sz_32, sz_33, sz_34, sz_35, sz_36, sz_37, sz_38, sz_39, sz_40, decide_eq_true_eq, Int.reduceLT, Int.reduceLE, Nat.reduceLeDiff, feedT, nd_one, at2_0, at2_1, at3_0, at3_1, at3_2, ix3_1, ix3_2, set3_1, set3_2, ↓VS.w_var, ↓VS.w_mv, ↓VS.w_c, ↓VS.w_2, ↓VS.w_and, ↓VS.w_or, ↓VS.w_not, ↓VS.w_if, ↓VS.w_ch, ↓VS.w_neg, ↓VS.w_fz, ↓VS.w_nil, ↓VS.w_cons, ↓VS.w_amut, ↓VS.w_disp, ↓VS.w_b, ↓VS.w_isi, ↓VS.w_call, ↓VS.w_rev, ↓VS.w_sl, ↓VS.w_mut, ↓VS.w_snil, ↓VS.w_seq, ↓VS.w_set, ↓VS.w_ret, ↓VS.w_expr, ↓VS.w_ifs, ↓VS.w_asg, ↓VS.w_sto, ↓VS.w_for, ↓VS.w_iof, ↓VS.w_rng, ↓VS.w_isx, ↓VS.w_efn, ↓VS.w_try, ↓VS.w_raise, ↓VS.w_m, ↓VS.w_callV, ↓VS.w_comp, ↓VS.w_yes, ↓VS.wO_some, ↓VS.wO_none, ↓VS.wO_map, ↓VS.wO_ite, VS.kMv, VS.k2b, VS.k2, VS.kQ, VS.kAnd, VS.kOr, VS.kNot, VS.kIf, VS.kChc, VS.kChb, VS.kCh, VS.kNeg, VS.frzV, VS.kFz, VS.kConsB, VS.kCons, VS.kMutA, VS.kUn, VS.kDisp, VS.kB, VS.kIsi, VS.kFo, VS.kCall, VS.kRev, VS.kPartB, VS.kPart, VS.kSlc, VS.kSlb, VS.kSl, VS.kMutT, VS.kMutR, VS.kSeq, VS.kSet, VS.kRet, VS.kExpr, VS.kIfS, VS.kAsg, VS.kStoT, VS.kStoI, VS.kSto, VS.kFor, VS.kOf, VS.kRng, VS.kFn, VS.kCompQ, VS.kComp, VS.kIsx, VS.kTry, VS.exName, VS.kM, VS.kMb, VS.kCv, VS.frz, VS.on1, VS.on2, VS.oErr, VS.opSl, VS.opRev, VS.isL, VS.isDc, VS.moAppend, VS.stL, VS.keeps, VS.keep, VS.mkTup, VS.allDat, VS.mkV, VS.pD, VS.pL, VS.pTu, VS.pI, VS.pB, VS.PV.tr, VS.PV.held, VS.toD, VS.toDs, VS.elems, VS.telems, VS.opI, VS.opB, VS.opAdd, VS.opEq, VS.opNe, VS.opIs, VS.opIsNot, VS.isNonT, VS.opIx, VS.subT, VS.datV, VS.ms, VS.noVw, VS.arT, VS.arTs, VS.okM, VS.putM, VS.unM, VS.valsA, VS.argsOut, VS.gNm, VS.gTp, VS.gEach, VS.kidsT, VS.tyT, VS.isTy, VS.bLen, VS.seqN, VS.seqD, VS.bList, VS.bRepr, VS.inR, VS.bSum2, VS.pTi, VS.bIndex, VS.bCount, VS.isLi, VS.opRg, VS.sh_int, VS.sh_bl, VS.sh_str, VS.sh_non, VS.eqv_int, VS.eqv_bl, VS.eqv_str, List.getElem?_cons_zero, List.getElem?_cons_succ, List.length_cons, List.length_nil, List.set_cons_zero, List.set_cons_succ, List.replicate_succ, List.replicate_zero, List.cons_append, List.nil_append, List.map_cons, List.map_nil, Option.map_some, Option.map_none, Option.bind_some, Option.bind_none, if_true, if_false, Bool.true_and, Bool.and_true, Bool.false_and, Bool.and_false, Bool.or_true, Bool.true_or, Bool.false_or, Bool.or_false, List.isEmpty_nil, List.isEmpty_cons, List.nodup_nil, decide_true, Bool.false_eq_true, true_and, and_true, Nat.zero_add, Nat.reduceAdd, Nat.reduceSub, Nat.reduceLT, Option.bind_eq_bind, Option.pure_def]
      refine ite_pr (fun hc => ?_) (fun _ => ⟨c, rfl⟩)
      obtain ⟨c, ec⟩ := at_cell h0 hc
      simp only [ec, toDs_map, toDs_ints, allDat_map, allDat_ints, eqv_ints, sh_ints, sh_nil, eqv_nil, sz_0, sz_1, sz_2, sz_3, sz_4, sz_5, sz_6, sz_7, sz_8, sz_9, sz_10, sz_11, sz_12, sz_13, sz_14, sz_15, sz_16, sz_17, sz_18, sz_19, sz_20, sz_21, sz_22, sz_23, sz_24, sz_25, sz_26, sz_27, sz_28, sz_29, sz_30, sz_31, sz_32, sz_33, sz_34, sz_35, sz_36, sz_37, sz_38, sz_39, sz_40, decide_eq_true_eq, Int.reduceLT, Int.reduceLE, Nat.reduceLeDiff, feedT, nd_one, at2_0, at2_1, at3_0, at3_1, at3_2, ix3_1, ix3_2, set3_1, set3_2, ↓VS.w_var, ↓VS.w_mv, ↓VS.w_c, ↓VS.w_2, ↓VS.w_and, ↓VS.w_or, ↓VS.w_not, ↓VS.w_if, ↓VS.w_ch, ↓VS.w_neg, ↓VS.w_fz, ↓VS.w_nil, ↓VS.w_cons, ↓VS.w_amut, ↓VS.w_disp, ↓VS.w_b, ↓VS.w_isi, ↓VS.w_call, ↓VS.w_rev, ↓VS.w_sl, ↓VS.w_mut, ↓VS.w_snil, ↓VS.w_seq, ↓VS.w_set, ↓VS.w_ret, ↓VS.w_expr, ↓VS.w_ifs, ↓VS.w_asg, ↓VS.w_sto, ↓VS.w_for, ↓VS.w_iof, ↓VS.w_rng, ↓VS.w_isx, ↓VS.w_efn, ↓VS.w_try, ↓VS.w_raise, ↓VS.w_m, ↓VS.w_callV, ↓VS.w_comp, ↓VS.w_yes, ↓VS.wO_some, ↓VS.wO_none, ↓VS.wO_map, ↓VS.wO_ite, VS.kMv, VS.k2b, VS.k2, VS.kQ, VS.kAnd, VS.kOr, VS.kNot, VS.kIf, VS.kChc, VS.kChb, VS.kCh, VS.kNeg, VS.frzV, VS.kFz, VS.kConsB, VS.kCons, VS.kMutA, VS.kUn, VS.kDisp, VS.kB, VS.kIsi, VS.kFo, VS.kCall, VS.kRev, VS.kPartB, VS.kPart, VS.kSlc, VS.kSlb, VS.kSl, VS.kMutT, VS.kMutR, VS.kSeq, VS.kSet, VS.kRet, VS.kExpr, VS.kIfS, VS.kAsg, VS.kStoT, VS.kStoI, VS.kSto, VS.kFor, VS.kOf, VS.kRng, VS.kFn, VS.kCompQ, VS.kComp, VS.kIsx, VS.kTry, VS.exName, VS.kM, VS.kMb, VS.kCv, VS.frz, VS.on1, VS.on2, VS.oErr, VS.opSl, VS.opRev, VS.isL, VS.isDc, VS.moAppend, VS.stL, VS.keeps, VS.keep, VS.mkTup, VS.allDat, VS.mkV, VS.pD, VS.pL, VS.pTu, VS.pI, VS.pB, VS.PV.tr, VS.PV.held, VS.toD, VS.toDs, VS.elems, VS.telems, VS.opI, VS.opB, VS.opAdd, VS.opEq, VS.opNe, VS.opIs, VS.opIsNot, VS.isNonT, VS.opIx, VS.subT, VS.datV, VS.ms, VS.noVw, VS.arT, VS.arTs, VS.okM, VS.putM, VS.unM, VS.valsA, VS.argsOut, VS.gNm, VS.gTp, VS.gEach, VS.kidsT, VS.tyT, VS.isTy, VS.bLen, VS.seqN, VS.seqD, VS.bList, VS.bRepr, VS.inR, VS.bSum2, VS.pTi, VS.bIndex, VS.bCount, VS.isLi, VS.opRg, VS.sh_int, VS.sh_bl, VS.sh_str, VS.sh_non, VS.eqv_int, VS.eqv_bl, VS.eqv_str, List.getElem?_cons_zero, List.getElem?_cons_succ, List.length_cons, List.length_nil, List.set_cons_zero, List.set_cons_succ, List.replicate_succ, List.replicate_zero, List.cons_append, List.nil_append, List.map_cons, List.map_nil, Option.map_some, Option.map_none, Option.bind_some, Option.bind_none, if_true, if_false, Bool.true_and, Bool.and_true, Bool.false_and, Bool.and_false, Bool.or_true, Bool.true_or, Bool.false_or, Bool.or_false, List.isEmpty_nil, List.isEmpty_cons, List.nodup_nil, decide_true, Bool.false_eq_true, true_and, and_true, Nat.zero_add, Nat.reduceAdd, Nat.reduceSub, Nat.reduceLT, Option.bind_eq_bind, Option.pure_def]
      exact ⟨_, rfl⟩
    · rintro e ⟨c, rfl⟩
      simp only [pw, toDs_map, toDs_ints, allDat_map, allDat_ints, eqv_ints, sh_ints, sh_nil, eqv_nil, sz_0, sz_1, sz_2, sz_3, sz_4, sz_5, sz_6, sz_7, sz_8, sz_9, sz_10, sz_11, sz_12, sz_13, sz_14, sz_15, sz_16, sz_17, sz_18, sz_19, sz_20, sz_21, sz_22, sz_23, sz_24, sz_25, sz_26, sz_27, sz_28, sz_29, sz_30, sz_31, sz_32, sz_33, sz_34, sz_35, sz_36, sz_37, sz_38, sz_39, sz_40, decide_eq_true_eq, Int.reduceLT, Int.reduceLE, Nat.reduceLeDiff, feedT, nd_one, at2_0, at2_1, at3_0, at3_1, at3_2, ix3_1, ix3_2, set3_1, set3_2, ↓VS.w_var, ↓VS.w_mv, ↓VS.w_c, ↓VS.w_2, ↓VS.w_and, ↓VS.w_or, ↓VS.w_not, ↓VS.w_if, ↓VS.w_ch, ↓VS.w_neg, ↓VS.w_fz, ↓VS.w_nil, ↓VS.w_cons, ↓VS.w_amut, ↓VS.w_disp, ↓VS.w_b, ↓VS.w_isi, ↓VS.w_call, ↓VS.w_rev, ↓VS.w_sl, ↓VS.w_mut, ↓VS.w_snil, ↓VS.w_seq, ↓VS.w_set, ↓VS.w_ret, ↓VS.w_expr, ↓VS.w_ifs, ↓VS.w_asg, ↓VS.w_sto, ↓VS.w_for, ↓VS.w_iof, ↓VS.w_rng, ↓VS.w_isx, ↓VS.w_efn, ↓VS.w_try, ↓VS.w_raise, ↓VS.w_m, ↓VS.w_callV, ↓VS.w_comp, ↓VS.w_yes, ↓VS.wO_some, ↓VS.wO_none, ↓VS.wO_map, ↓VS.wO_ite, VS.kMv, VS.k2b, VS.k2, VS.kQ, VS.kAnd, VS.kOr, VS.kNot, VS.kIf, VS.kChc, VS.kChb, VS.kCh, VS.kNeg, VS.frzV, VS.kFz, VS.kConsB, VS.kCons, VS.kMutA, VS.kUn, VS.kDisp, VS.kB, VS.kIsi, VS.kFo, VS.kCall, VS.kRev, VS.kPartB, VS.kPart, VS.kSlc, VS.kSlb, VS.kSl, VS.kMutT, VS.kMutR, VS.kSeq, VS.kSet, VS.kRet, VS.kExpr, VS.kIfS, VS.kAsg, VS.kStoT, VS.kStoI, VS.kSto, VS.kFor, VS.kOf, VS.kRng, VS.kFn, VS.kCompQ, VS.kComp, VS.kIsx, VS.kTry, VS.exName, VS.kM, VS.kMb, VS.kCv, VS.frz, VS.on1, VS.on2, VS.oErr, VS.opSl, VS.opRev, VS.isL, VS.isDc, VS.moAppend, VS.stL, VS.keeps, VS.keep, VS.mkTup, VS.allDat, VS.mkV, VS.pD, VS.pL, VS.pTu, VS.pI, VS.pB, VS.PV.tr, VS.PV.held, VS.toD, VS.toDs, VS.elems, VS.telems, VS.opI, VS.opB, VS.opAdd, VS.opEq, VS.opNe, VS.opIs, VS.opIsNot, VS.isNonT, VS.opIx, VS.subT, VS.datV, VS.ms, VS.noVw, VS.arT, VS.arTs, VS.okM, VS.putM, VS.unM, VS.valsA, VS.argsOut, VS.gNm, VS.gTp, VS.gEach, VS.kidsT, VS.tyT, VS.isTy, VS.bLen, VS.seqN, VS.seqD, VS.bList, VS.bRepr, VS.inR, VS.bSum2, VS.pTi, VS.bIndex, VS.bCount, VS.isLi, VS.opRg, VS.sh_int, VS.sh_bl, VS.sh_str, VS.sh_non, VS.eqv_int, VS.eqv_bl, VS.eqv_str, List.getElem?_cons_zero, List.getElem?_cons_succ, List.length_cons, List.length_nil, List.set_cons_zero, List.set_cons_succ, List.replicate_succ, List.replicate_zero, List.cons_append, List.nil_append, List.map_cons, List.map_nil, Option.map_some, Option.map_none, Option.bind_some, Option.bind_none, if_true, if_false, Bool.true_and, Bool.and_true, Bool.false_and, Bool.and_false, Bool.or_true, Bool.true_or, Bool.false_or, Bool.or_false, List.isEmpty_nil, List.isEmpty_cons, List.nodup_nil, decide_true, Bool.false_eq_true, true_and, and_true, Nat.zero_add, Nat.reduceAdd, Nat.reduceSub, Nat.reduceLT, Option.bind_eq_bind, Option.pure_def]
      refine ⟨by decide, ite_pr (fun _ => hQ c) fun _ => ?_⟩
      refine tail c _ fun one two o1 o2 t1 t2 e1 e2 => ?_
      have m31 : cMul 31 a = true := mul_ok (by decide) ma
      have maa : cMul a a = true := mul_ok ma ma
      obtain ⟨f1, f2, f3⟩ := fresh_tail (c := c) h0 h1 o1 o2 t1 t2
      simp only [s5, s7, e1, e2, mod_ok, o1, t1, m31, maa, f1, f2, f3, toDs_map, toDs_ints, allDat_map, allDat_ints, eqv_ints, sh_ints, sh_nil, eqv_nil, sz_0, sz_1, sz_2, sz_3, sz_4, sz_5, sz_6, sz_7, sz_8, sz_9, sz_10, sz_11, sz_12, sz_13, sz_14, sz_15, sz_16, sz_17, sz_18, sz_19, sz_20, sz_21, sz_22, sz_23, sz_24, sz_25, sz_26, sz_27, sz_28, sz_29, sz_30, sz_31, sz_32, sz_33, sz_34, sz_35, sz_36, sz_37, sz_38, sz_39, sz_40, decide_eq_true_eq, Int.reduceLT, Int.reduceLE, Nat.reduceLeDiff, feedT, nd_one, at2_0, at2_1, at3_0, at3_1, at3_2, ix3_1, ix3_2, set3_1, set3_2, ↓VS.w_var, ↓VS.w_mv, ↓VS.w_c, ↓VS.w_2, ↓VS.w_and, ↓VS.w_or, ↓VS.w_not, ↓VS.w_if, ↓VS.w_ch, ↓VS.w_neg, ↓VS.w_fz, ↓VS.w_nil, ↓VS.w_cons, ↓VS.w_amut, ↓VS.w_disp, ↓VS.w_b, ↓VS.w_isi, ↓VS.w_call, ↓VS.w_rev, ↓VS.w_sl, ↓VS.w_mut, ↓VS.w_snil, ↓VS.w_seq, ↓VS.w_set, ↓VS.w_ret, ↓VS.w_expr, ↓VS.w_ifs, ↓VS.w_asg, ↓VS.w_sto, ↓VS.w_for, ↓VS.w_iof, ↓VS.w_rng, ↓VS.w_isx, ↓VS.w_efn, ↓VS.w_try, ↓VS.w_raise, ↓VS.w_m, ↓VS.w_callV, ↓VS.w_comp, ↓VS.w_yes, ↓VS.wO_some, ↓VS.wO_none, ↓VS.wO_map, ↓VS.wO_ite, VS.kMv, VS.k2b, VS.k2, VS.kQ, VS.kAnd, VS.kOr, VS.kNot, VS.kIf, VS.kChc, VS.kChb, VS.kCh, VS.kNeg, VS.frzV, VS.kFz, VS.kConsB, VS.kCons, VS.kMutA, VS.kUn, VS.kDisp, VS.kB, VS.kIsi, VS.kFo, VS.kCall, VS.kRev, VS.kPartB, VS.kPart, VS.kSlc, VS.kSlb, VS.kSl, VS.kMutT, VS.kMutR, VS.kSeq, VS.kSet, VS.kRet, VS.kExpr, VS.kIfS, VS.kAsg, VS.kStoT, VS.kStoI, VS.kSto, VS.kFor, VS.kOf, VS.kRng, VS.kFn, VS.kCompQ, VS.kComp, VS.kIsx, VS.kTry, VS.exName, VS.kM, VS.kMb, VS.kCv, VS.frz, VS.on1, VS.on2, VS.oErr, VS.opSl, VS.opRev, VS.isL, VS.isDc, VS.moAppend, VS.stL, VS.keeps, VS.keep, VS.mkTup, VS.allDat, VS.mkV, VS.pD, VS.pL, VS.pTu, VS.pI, VS.pB, VS.PV.tr, VS.PV.held, VS.toD, VS.toDs, VS.elems, VS.telems, VS.opI, VS.opB, VS.opAdd, VS.opEq, VS.opNe, VS.opIs, VS.opIsNot, VS.isNonT, VS.opIx, VS.subT, VS.datV, VS.ms, VS.noVw, VS.arT, VS.arTs, VS.okM, VS.putM, VS.unM, VS.valsA, VS.argsOut, VS.gNm, VS.gTp, VS.gEach, VS.kidsT, VS.tyT, VS.isTy, VS.bLen, VS.seqN, VS.seqD, VS.bList, VS.bRepr, VS.inR, VS.bSum2, VS.pTi, VS.bIndex, VS.bCount, VS.isLi, VS.opRg, VS.sh_int, VS.sh_bl, VS.sh_str, VS.sh_non, VS.eqv_int, VS.eqv_bl, VS.eqv_str, List.getElem?_cons_zero, List.getElem?_cons_succ, List.length_cons, List.length_nil, List.set_cons_zero, List.set_cons_succ, List.replicate_succ, List.replicate_zero, List.cons_append, List.nil_append, List.map_cons, List.map_nil, Option.map_some, Option.map_none, Option.bind_some, Option.bind_none, if_true, if_false, Bool.true_and, Bool.and_true, Bool.false_and, Bool.and_false, Bool.or_true, Bool.true_or, Bool.false_or, Bool.or_false, List.isEmpty_nil, List.isEmpty_cons, List.nodup_nil, decide_true, Bool.false_eq_true, true_and, and_true, Nat.zero_add, Nat.reduceAdd, Nat.reduceSub, Nat.reduceLT, Option.bind_eq_bind, Option.pure_def]
      exact hQ _
theorem e_take {cs : List Int} {a b m : Int} {Q : Fo → Prop} (h0 : 0 ≤ a) (h1 : a ≤ 2 ^ 30) (hcs : cs.length ≤ 63) (m0 : 0 < m) (m1 : m.natAbs < 2 ^ 250)
    (hQ : ∀ v a' b', 0 ≤ v → v < m → 0 ≤ a' → a' ≤ a + 1 → Q (.ret (.dat (.int v)) [feedT cs a' b', .dat (.int m)])) : WF F_law_e_take [feedT cs a b, .dat (.int m)] Q := by
  unfold F_law_e_take
  rw [w_fn (by rfl)]
  unfold g_law_e_take
  have hv : ∀ x : Int, 0 ≤ x % m ∧ x % m < m := fun x => ⟨Int.emod_nonneg x (by omega), Int.emod_lt_of_pos x m0⟩
  have c1 : ∀ x : Int, cDiv x m = true := fun x => div_ok m0 m1
  have c2 : ∀ x : Int, cMod x m = true := fun x => mod_ok m0
  simp only [toDs_map, toDs_ints, allDat_map, allDat_ints, eqv_ints, sh_ints, sh_nil, eqv_nil, sz_0, sz_1, sz_2, sz_3, sz_4, sz_5, sz_6, sz_7, sz_8, sz_9, sz_10, sz_11, sz_12, sz_13, sz_14, sz_15, sz_16, sz_17, sz_18, sz_19, sz_20, sz_21, sz_22, sz_23, sz_24, sz_25, sz_26, sz_27, sz_28, sz_29, sz_30, sz_31, sz_32, sz_33, sz_34, sz_35, sz_36, sz_37, sz_38, sz_39, sz_40, decide_eq_true_eq, Int.reduceLT, Int.reduceLE, Nat.reduceLeDiff, feedT, nd_one, at2_0, at2_1, at3_0, at3_1, at3_2, ix3_1, ix3_2, set3_1, set3_2, ↓VS.w_var, ↓VS.w_mv, ↓VS.w_c, ↓VS.w_2, ↓VS.w_and, ↓VS.w_or, ↓VS.w_not, ↓VS.w_if, ↓VS.w_ch, ↓VS.w_neg, ↓VS.w_fz, ↓VS.w_nil, ↓VS.w_cons, ↓VS.w_amut, ↓VS.w_disp, ↓VS.w_b, ↓VS.w_isi, ↓VS.w_call, ↓VS.w_rev, ↓VS.w_sl, ↓VS.w_mut, ↓VS.w_snil, ↓VS.w_seq, ↓VS.w_set, ↓VS.w_ret, ↓VS.w_expr, ↓VS.w_asg, ↓VS.w_sto, ↓VS.w_for, ↓VS.w_iof, ↓VS.w_rng, ↓VS.w_isx, ↓VS.w_efn, ↓VS.w_try, ↓VS.w_raise, ↓VS.w_m, ↓VS.w_callV, ↓VS.w_comp, ↓VS.w_yes, ↓VS.wO_some, ↓VS.wO_none, ↓VS.wO_map, ↓VS.wO_ite, VS.kMv, VS.k2b, VS.k2, VS.kQ, VS.kAnd, VS.kOr, VS.kNot, VS.kIf, VS.kChc, VS.kChb, VS.kCh, VS.kNeg, VS.frzV, VS.kFz, VS.kConsB, VS.kCons, VS.kMutA, VS.kUn, VS.kDisp, VS.kB, VS.kIsi, VS.kFo, VS.kCall, VS.kRev, VS.kPartB, VS.kPart, VS.kSlc, VS.kSlb, VS.kSl, VS.kMutT, VS.kMutR, VS.kSeq, VS.kSet, VS.kRet, VS.kExpr, VS.kIfS, VS.kAsg, VS.kStoT, VS.kStoI, VS.kSto, VS.kFor, VS.kOf, VS.kRng, VS.kFn, VS.kCompQ, VS.kComp, VS.kIsx, VS.kTry, VS.exName, VS.kM, VS.kMb, VS.kCv, VS.frz, VS.on1, VS.on2, VS.oErr, VS.opSl, VS.opRev, VS.isL, VS.isDc, VS.moAppend, VS.stL, VS.keeps, VS.keep, VS.mkTup, VS.allDat, VS.mkV, VS.pD, VS.pL, VS.pTu, VS.pI, VS.pB, VS.PV.tr, VS.PV.held, VS.toD, VS.toDs, VS.elems, VS.telems, VS.opI, VS.opB, VS.opAdd, VS.opEq, VS.opNe, VS.opIs, VS.opIsNot, VS.isNonT, VS.opIx, VS.subT, VS.datV, VS.ms, VS.noVw, VS.arT, VS.arTs, VS.okM, VS.putM, VS.unM, VS.valsA, VS.argsOut, VS.gNm, VS.gTp, VS.gEach, VS.kidsT, VS.tyT, VS.isTy, VS.bLen, VS.seqN, VS.seqD, VS.bList, VS.bRepr, VS.inR, VS.bSum2, VS.pTi, VS.bIndex, VS.bCount, VS.isLi, VS.opRg, VS.sh_int, VS.sh_bl, VS.sh_str, VS.sh_non, VS.eqv_int, VS.eqv_bl, VS.eqv_str, List.getElem?_cons_zero, List.getElem?_cons_succ, List.length_cons, List.length_nil, List.set_cons_zero, List.set_cons_succ, List.replicate_succ, List.replicate_zero, List.cons_append, List.nil_append, List.map_cons, List.map_nil, Option.map_some, Option.map_none, Option.bind_some, Option.bind_none, if_true, if_false, Bool.true_and, Bool.and_true, Bool.false_and, Bool.and_false, Bool.or_true, Bool.true_or, Bool.false_or, Bool.or_false, List.isEmpty_nil, List.isEmpty_cons, List.nodup_nil, decide_true, Bool.false_eq_true, true_and, and_true, Nat.zero_add, Nat.reduceAdd, Nat.reduceSub, Nat.reduceLT, Option.bind_eq_bind, Option.pure_def]
  refine w_join (fun e => ∃ a' b' : Int, 0 ≤ a' ∧ a' ≤ a + 1 ∧ e = [T.lst [.dat (.list (cs.map .int)), .dat (.int a'), .dat (.int b')], .dat (.int m), .un]) ?_ ?_
  · simp only [kI, toDs_map, toDs_ints, allDat_map, allDat_ints, eqv_ints, sh_ints, sh_nil, eqv_nil, sz_0, sz_1, sz_2, sz_3, sz_4, sz_5, sz_6, sz_7, sz_8, sz_9, sz_10, sz_11, sz_12, sz_13, sz_14, sz_15, sz_16, sz_17, sz_18, sz_19, sz_20, sz_21, sz_22, sz_23, sz_24, sz_25, sz_26, sz_27, sz_28, sz_29, sz_30, sz_31, sz_32, sz_33, sz_34, sz_35, sz_36, sz_37, sz_38, sz_39, sz_40, decide_eq_true_eq, Int.reduceLT, Int.reduceLE, Nat.reduceLeDiff, feedT, nd_one, at2_0, at2_1, at3_0, at3_1, at3_2, ix3_1, ix3_2, set3_1, set3_2, ↓VS.w_var, ↓VS.w_mv, ↓VS.w_c, ↓VS.w_2, ↓VS.w_and, ↓VS.w_or, ↓VS.w_not, ↓VS.w_if, ↓VS.w_ch, ↓VS.w_neg, ↓VS.w_fz, ↓VS.w_nil, ↓VS.w_cons, ↓VS.w_amut, ↓VS.w_disp, ↓VS.w_b, ↓VS.w_isi, ↓VS.w_call, ↓VS.w_rev, ↓VS.w_sl, ↓VS.w_mut, ↓VS.w_snil, ↓VS.w_seq, ↓VS.w_set, ↓VS.w_ret, ↓VS.w_expr, ↓VS.w_ifs, ↓VS.w_asg, ↓VS.w_sto, ↓VS.w_for, ↓VS.w_iof, ↓VS.w_rng, ↓VS.w_isx, ↓VS.w_efn, ↓VS.w_try, ↓VS.w_raise, ↓VS.w_m, ↓VS.w_callV, ↓VS.w_comp, ↓VS.w_yes, ↓VS.wO_some, ↓VS.wO_none, ↓VS.wO_map, ↓VS.wO_ite, VS.kMv, VS.k2b, VS.k2, VS.kQ, VS.kAnd, VS.kOr, VS.kNot, VS.kIf, VS.kChc, VS.kChb, VS.kCh, VS.kNeg, VS.frzV, VS.kFz, VS.kConsB, VS.kCons, VS.kMutA, VS.kUn, VS.kDisp, VS.kB, VS.kIsi, VS.kFo, VS.kCall, VS.kRev, VS.kPartB, VS.kPart, VS.kSlc, VS.kSlb, VS.kSl, VS.kMutT, VS.kMutR, VS.kSeq, VS.kSet, VS.kRet, VS.kExpr, VS.kIfS, VS.kAsg, VS.kStoT, VS.kStoI, VS.kSto, VS.kFor, VS.kOf, VS.kRng, VS.kFn, VS.kCompQ, VS.kComp, VS.kIsx, VS.kTry, VS.exName, VS.kM, VS.kMb, VS.kCv, VS.frz, VS.on1, VS.on2, VS.oErr, VS.opSl, VS.opRev, VS.isL, VS.isDc, VS.moAppend, VS.stL, VS.keeps, VS.keep, VS.mkTup, VS.allDat, VS.mkV, VS.pD, VS.pL, VS.pTu, VS.pI, VS.pB, VS.PV.tr, VS.PV.held, VS.toD, VS.toDs, VS.elems, VS.telems, VS.opI, VS.opB, VS.opAdd, VS.opEq, VS.opNe, VS.opIs, VS.opIsNot, VS.isNonT, VS.opIx, VS.subT, VS.datV, VS.ms, VS.noVw, VS.arT, VS.arTs, VS.okM, VS.putM, VS.unM, VS.valsA, VS.argsOut, VS.gNm, VS.gTp, VS.gEach, VS.kidsT, VS.tyT, VS.isTy, VS.bLen, VS.seqN, VS.seqD, VS.bList, VS.bRepr, VS.inR, VS.bSum2, VS.pTi, VS.bIndex, VS.bCount, VS.isLi, VS.opRg, VS.sh_int, VS.sh_bl, VS.sh_str, VS.sh_non, VS.eqv_int, VS.eqv_bl, VS.eqv_str, List.getElem?_cons_zero, List.getElem?_cons_succ, List.length_cons, List.length_nil, List.set_cons_zero, List.set_cons_succ, List.replicate_succ, List.replicate_zero, List.cons_append, List.nil_append, List.map_cons, List.map_nil, Option.map_some, Option.map_none, Option.bind_some, Option.bind_none, if_true, if_false, Bool.true_and, Bool.and_true, Bool.false_and, Bool.and_false, Bool.or_true, Bool.true_or, Bool.false_or, Bool.or_false, List.isEmpty_nil, List.isEmpty_cons, List.nodup_nil, decide_true, Bool.false_eq_true, true_and, and_true, Nat.zero_add, Nat.reduceAdd, Nat.reduceSub, Nat.reduceLT, Option.bind_eq_bind, Option.pure_def]
    refine ite_pr (fun hc => ?_) (fun _ => ⟨a, b, h0, by omega, rfl⟩)
    refine e_fresh h0 h1 hcs fun v => ?_
    simp only [kI, toDs_map, toDs_ints, allDat_map, allDat_ints, eqv_ints, sh_ints, sh_nil, eqv_nil, sz_0, sz_1, sz_2, sz_3, sz_4, sz_5, sz_6, sz_7, sz_8, sz_9, sz_10, sz_11, sz_12, sz_13, sz_14, sz_15, sz_16, sz_17, sz_18, sz_19, sz_20, sz_21, sz_22, sz_23, sz_24, sz_25, sz_26, sz_27, sz_28, sz_29, sz_30, sz_31, sz_32, sz_33, sz_34, sz_35, sz_36, sz_37, sz_38, sz_39, sz_40, decide_eq_true_eq, Int.reduceLT, Int.reduceLE, Nat.reduceLeDiff, feedT, nd_one, at2_0, at2_1, at3_0, at3_1, at3_2, ix3_1, ix3_2, set3_1, set3_2, ↓VS.w_var, ↓VS.w_mv, ↓VS.w_c, ↓VS.w_2, ↓VS.w_and, ↓VS.w_or, ↓VS.w_not, ↓VS.w_if, ↓VS.w_ch, ↓VS.w_neg, ↓VS.w_fz, ↓VS.w_nil, ↓VS.w_cons, ↓VS.w_amut, ↓VS.w_disp, ↓VS.w_b, ↓VS.w_isi, ↓VS.w_call, ↓VS.w_rev, ↓VS.w_sl, ↓VS.w_mut, ↓VS.w_snil, ↓VS.w_seq, ↓VS.w_set, ↓VS.w_ret, ↓VS.w_expr, ↓VS.w_ifs, ↓VS.w_asg, ↓VS.w_sto, ↓VS.w_for, ↓VS.w_iof, ↓VS.w_rng, ↓VS.w_isx, ↓VS.w_efn, ↓VS.w_try, ↓VS.w_raise, ↓VS.w_m, ↓VS.w_callV, ↓VS.w_comp, ↓VS.w_yes, ↓VS.wO_some, ↓VS.wO_none, ↓VS.wO_map, ↓VS.wO_ite, VS.kMv, VS.k2b, VS.k2, VS.kQ, VS.kAnd, VS.kOr, VS.kNot, VS.kIf, VS.kChc, VS.kChb, VS.kCh, VS.kNeg, VS.frzV, VS.kFz, VS.kConsB, VS.kCons, VS.kMutA, VS.kUn, VS.kDisp, VS.kB, VS.kIsi, VS.kFo, VS.kCall, VS.kRev, VS.kPartB, VS.kPart, VS.kSlc, VS.kSlb, VS.kSl, VS.kMutT, VS.kMutR, VS.kSeq, VS.kSet, VS.kRet, VS.kExpr, VS.kIfS, VS.kAsg, VS.kStoT, VS.kStoI, VS.kSto, VS.kFor, VS.kOf, VS.kRng, VS.kFn, VS.kCompQ, VS.kComp, VS.kIsx, VS.kTry, VS.exName, VS.kM, VS.kMb, VS.kCv, VS.frz, VS.on1, VS.on2, VS.oErr, VS.opSl, VS.opRev, VS.isL, VS.isDc, VS.moAppend, VS.stL, VS.keeps, VS.keep, VS.mkTup, VS.allDat, VS.mkV, VS.pD, VS.pL, VS.pTu, VS.pI, VS.pB, VS.PV.tr, VS.PV.held, VS.toD, VS.toDs, VS.elems, VS.telems, VS.opI, VS.opB, VS.opAdd, VS.opEq, VS.opNe, VS.opIs, VS.opIsNot, VS.isNonT, VS.opIx, VS.subT, VS.datV, VS.ms, VS.noVw, VS.arT, VS.arTs, VS.okM, VS.putM, VS.unM, VS.valsA, VS.argsOut, VS.gNm, VS.gTp, VS.gEach, VS.kidsT, VS.tyT, VS.isTy, VS.bLen, VS.seqN, VS.seqD, VS.bList, VS.bRepr, VS.inR, VS.bSum2, VS.pTi, VS.bIndex, VS.bCount, VS.isLi, VS.opRg, VS.sh_int, VS.sh_bl, VS.sh_str, VS.sh_non, VS.eqv_int, VS.eqv_bl, VS.eqv_str, List.getElem?_cons_zero, List.getElem?_cons_succ, List.length_cons, List.length_nil, List.set_cons_zero, List.set_cons_succ, List.replicate_succ, List.replicate_zero, List.cons_append, List.nil_append, List.map_cons, List.map_nil, Option.map_some, Option.map_none, Option.bind_some, Option.bind_none, if_true, if_false, Bool.true_and, Bool.and_true, Bool.false_and, Bool.and_false, Bool.or_true, Bool.true_or, Bool.false_or, Bool.or_false, List.isEmpty_nil, List.isEmpty_cons, List.nodup_nil, decide_true, Bool.false_eq_true, true_and, and_true, Nat.zero_add, Nat.reduceAdd, Nat.reduceSub, Nat.reduceLT, Option.bind_eq_bind, Option.pure_def]
    exact ⟨a + 1, v, by omega, by omega, rfl⟩
  · rintro e ⟨a', b', h0', h1', rfl⟩
    simp only [c1, c2, toDs_map, toDs_ints, allDat_map, allDat_ints, eqv_ints, sh_ints, sh_nil, eqv_nil, sz_0, sz_1, sz_2, sz_3, sz_4, sz_5, sz_6, sz_7, sz_8, sz_9, sz_10, sz_11, sz_12, sz_13, sz_14, sz_15, sz_16, sz_17, sz_18, sz_19, sz_20, sz_21, sz_22, sz_23, sz_24, sz_25, sz_26, sz_27, sz_28, sz_29, sz_30, sz_31, sz_32, sz_33, sz_34, sz_35, sz_36, sz_37, sz_38, sz_39, sz_40, decide_eq_true_eq, Int.reduceLT, Int.reduceLE, Nat.reduceLeDiff, feedT, nd_one, at2_0, at2_1, at3_0, at3_1, at3_2, ix3_1, ix3_2, set3_1, set3_2, ↓VS.w_var, ↓VS.w_mv, ↓VS.w_c, ↓VS.w_2, ↓VS.w_and, ↓VS.w_or, ↓VS.w_not, ↓VS.w_if, ↓VS.w_ch, ↓VS.w_neg, ↓VS.w_fz, ↓VS.w_nil, ↓VS.w_cons, ↓VS.w_amut, ↓VS.w_disp, ↓VS.w_b, ↓VS.w_isi, ↓VS.w_call, ↓VS.w_rev, ↓VS.w_sl, ↓VS.w_mut, ↓VS.w_snil, ↓VS.w_seq, ↓VS.w_set, ↓VS.w_ret, ↓VS.w_expr, ↓VS.w_ifs, ↓VS.w_asg, ↓VS.w_sto, ↓VS.w_for, ↓VS.w_iof, ↓VS.w_rng, ↓VS.w_isx, ↓VS.w_efn, ↓VS.w_try, ↓VS.w_raise, ↓VS.w_m, ↓VS.w_callV, ↓VS.w_comp, ↓VS.w_yes, ↓VS.wO_some, ↓VS.wO_none, ↓VS.wO_map, ↓VS.wO_ite, VS.kMv, VS.k2b, VS.k2, VS.kQ, VS.kAnd, VS.kOr, VS.kNot, VS.kIf, VS.kChc, VS.kChb, VS.kCh, VS.kNeg, VS.frzV, VS.kFz, VS.kConsB, VS.kCons, VS.kMutA, VS.kUn, VS.kDisp, VS.kB, VS.kIsi, VS.kFo, VS.kCall, VS.kRev, VS.kPartB, VS.kPart, VS.kSlc, VS.kSlb, VS.kSl, VS.kMutT, VS.kMutR, VS.kSeq, VS.kSet, VS.kRet, VS.kExpr, VS.kIfS, VS.kAsg, VS.kStoT, VS.kStoI, VS.kSto, VS.kFor, VS.kOf, VS.kRng, VS.kFn, VS.kCompQ, VS.kComp, VS.kIsx, VS.kTry, VS.exName, VS.kM, VS.kMb, VS.kCv, VS.frz, VS.on1, VS.on2, VS.oErr, VS.opSl, VS.opRev, VS.isL, VS.isDc, VS.moAppend, VS.stL, VS.keeps, VS.keep, VS.mkTup, VS.allDat, VS.mkV, VS.pD, VS.pL, VS.pTu, VS.pI, VS.pB, VS.PV.tr, VS.PV.held, VS.toD, VS.toDs, VS.elems, VS.telems, VS.opI, VS.opB, VS.opAdd, VS.opEq, VS.opNe, VS.opIs, VS.opIsNot, VS.isNonT, VS.opIx, VS.subT, VS.datV, VS.ms, VS.noVw, VS.arT, VS.arTs, VS.okM, VS.putM, VS.unM, VS.valsA, VS.argsOut, VS.gNm, VS.gTp, VS.gEach, VS.kidsT, VS.tyT, VS.isTy, VS.bLen, VS.seqN, VS.seqD, VS.bList, VS.bRepr, VS.inR, VS.bSum2, VS.pTi, VS.bIndex, VS.bCount, VS.isLi, VS.opRg, VS.sh_int, VS.sh_bl, VS.sh_str, VS.sh_non, VS.eqv_int, VS.eqv_bl, VS.eqv_str, List.getElem?_cons_zero, List.getElem?_cons_succ, List.length_cons, List.length_nil, List.set_cons_zero, List.set_cons_succ, List.replicate_succ, List.replicate_zero, List.cons_append, List.nil_append, List.map_cons, List.map_nil, Option.map_some, Option.map_none, Option.bind_some, Option.bind_none, if_true, if_false, Bool.true_and, Bool.and_true, Bool.false_and, Bool.and_false, Bool.or_true, Bool.true_or, Bool.false_or, Bool.or_false, List.isEmpty_nil, List.isEmpty_cons, List.nodup_nil, decide_true, Bool.false_eq_true, true_and, and_true, Nat.zero_add, Nat.reduceAdd, Nat.reduceSub, Nat.reduceLT, Option.bind_eq_bind, Option.pure_def]
    exact hQ _ _ _ (hv b').1 (hv b').2 h0' h1'
end k62

set_option Elab.async false
set_option linter.all false
set_option maxRecDepth 100000
set_option backward.isDefEq.respectTransparency false
set_option maxHeartbeats 4000000
namespace k62
open PySem PySem.Spec VS
def oD : Option Int → D
  | none => .none
  | some t => .int t
structure Case (kept : List Int) (many : Nat) (low high : Int) (tot : Option Int) : Prop where
  kl : kept.length ≤ 40
  kb : ∀ x ∈ kept, -(10 ^ 37) ≤ x ∧ x ≤ 10 ^ 37
  mb : many ≤ 1000
  lh : low ≤ high
  lb : -(10 ^ 37) ≤ low
  hb : high ≤ 10 ^ 37
  tb : ∀ t, tot = some t → many * low ≤ t ∧ t ≤ many * high
def caseD (kept : List Int) (many : Nat) (low high : Int) (tot : Option Int) : D := .tuple [.list (kept.map .int), .int many, .int low, .int high, oD tot]
end k62

set_option Elab.async false
set_option linter.all false
set_option maxRecDepth 100000
set_option backward.isDefEq.respectTransparency false
set_option maxHeartbeats 4000000
namespace k62
open PySem PySem.Spec VS
def B50 (x : Int) : Prop := -(10 ^ 50) ≤ x ∧ x ≤ 10 ^ 50
theorem B50.ok {x : Int} (h : B50 x) : x.natAbs < 2 ^ 250 := by unfold B50 at h; omega
def meantT (tot : Option Int) (many : Nat) (low high : Int) (g : Bool) : Int := match tot with
  | none => if g = true then many * high else many * low
  | some t => t
def knownD (many : Nat) (low high total : Int) : D := .tuple [.int many, .int low, .int high, .int total]
theorem Case.prod {kept : List Int} {many : Nat} {low high : Int} {tot : Option Int} (c : Case kept many low high tot) : B50 low ∧ B50 high ∧ B50 many ∧ (many : Int) * low ≤ many * high ∧ B50 (many * low) ∧ B50 (many * high) := by
  have h1 := c.lb
  have h2 := c.hb
  have h3 := c.lh
  have h4 := c.mb
  have a : (many : Int) * low ≤ many * high := Int.mul_le_mul_of_nonneg_left h3 (by omega)
  have b : (many : Int) * (-(10 ^ 37)) ≤ many * low := Int.mul_le_mul_of_nonneg_left h1 (by omega)
  have d : (many : Int) * high ≤ many * 10 ^ 37 := Int.mul_le_mul_of_nonneg_left h2 (by omega)
  unfold B50
  refine ⟨by omega, by omega, by omega, a, by omega, by omega⟩
theorem Case.meant {kept : List Int} {many : Nat} {low high : Int} {tot : Option Int} (c : Case kept many low high tot) (g : Bool) : (many : Int) * low ≤ meantT tot many low high g ∧ meantT tot many low high g ≤ many * high := by
  obtain ⟨_, _, _, a, _, _⟩ := c.prod
  unfold meantT
  cases tot with
  | none => cases g <;> simp <;> omega
  | some t => exact c.tb t rfl
theorem e_meant {kept : List Int} {many : Nat} {low high : Int} {tot : Option Int} {g : Bool} {Q : Fo → Prop} (c : Case kept many low high tot)
    (hQ : Q (.ret (.dat (knownD many low high (meantT tot many low high g))) [.dat (.int many), .dat (.int low), .dat (.int high), .un, .dat (.bool g)])) :
    WF F_meant [.dat (.int many), .dat (.int low), .dat (.int high), .dat (oD tot), .dat (.bool g)] Q := by
  unfold F_meant
  rw [w_fn (by rfl)]
  unfold g_meant
  obtain ⟨b1, b2, b3, a, b4, b5⟩ := c.prod
  have c1 : cMul (many : Int) low = true := mul_ok b3.ok b1.ok
  have c2 : cMul (many : Int) high = true := mul_ok b3.ok b2.ok
  obtain ⟨m1, m2⟩ := c.meant g
  simp only [toDs_map, toDs_ints, allDat_map, allDat_ints, eqv_ints, sh_ints, sh_nil, eqv_nil, sz_0, sz_1, sz_2, sz_3, sz_4, sz_5, sz_6, sz_7, sz_8, sz_9, sz_10, sz_11, sz_12, sz_13, sz_14, sz_15, sz_16, sz_17, sz_18, sz_19, sz_20, sz_21, sz_22, sz_23, sz_24, sz_25, sz_26, sz_27, sz_28, sz_29, sz_30, sz_31, sz_32, sz_33, sz_34, sz_35, sz_36, sz_37, sz_38, sz_39, sz_40, decide_eq_true_eq, Int.reduceLT, Int.reduceLE, Nat.reduceLeDiff, feedT, nd_one, at2_0, at2_1, at3_0, at3_1, at3_2, ix3_1, ix3_2, set3_1, set3_2, ↓VS.w_var, ↓VS.w_mv, ↓VS.w_c, ↓VS.w_2, ↓VS.w_and, ↓VS.w_or, ↓VS.w_not, ↓VS.w_if, ↓VS.w_ch, ↓VS.w_neg, ↓VS.w_fz, ↓VS.w_nil, ↓VS.w_cons, ↓VS.w_amut, ↓VS.w_disp, ↓VS.w_b, ↓VS.w_isi, ↓VS.w_call, ↓VS.w_rev, ↓VS.w_sl, ↓VS.w_mut, ↓VS.w_snil, ↓VS.w_seq, ↓VS.w_set, ↓VS.w_ret, ↓VS.w_expr, ↓VS.w_asg, ↓VS.w_sto, ↓VS.w_for, ↓VS.w_iof, ↓VS.w_rng, ↓VS.w_isx, ↓VS.w_efn, ↓VS.w_try, ↓VS.w_raise, ↓VS.w_m, ↓VS.w_callV, ↓VS.w_comp, ↓VS.w_yes, ↓VS.wO_some, ↓VS.wO_none, ↓VS.wO_map, ↓VS.wO_ite, VS.kMv, VS.k2b, VS.k2, VS.kQ, VS.kAnd, VS.kOr, VS.kNot, VS.kIf, VS.kChc, VS.kChb, VS.kCh, VS.kNeg, VS.frzV, VS.kFz, VS.kConsB, VS.kCons, VS.kMutA, VS.kUn, VS.kDisp, VS.kB, VS.kIsi, VS.kFo, VS.kCall, VS.kRev, VS.kPartB, VS.kPart, VS.kSlc, VS.kSlb, VS.kSl, VS.kMutT, VS.kMutR, VS.kSeq, VS.kSet, VS.kRet, VS.kExpr, VS.kIfS, VS.kAsg, VS.kStoT, VS.kStoI, VS.kSto, VS.kFor, VS.kOf, VS.kRng, VS.kFn, VS.kCompQ, VS.kComp, VS.kIsx, VS.kTry, VS.exName, VS.kM, VS.kMb, VS.kCv, VS.frz, VS.on1, VS.on2, VS.oErr, VS.opSl, VS.opRev, VS.isL, VS.isDc, VS.moAppend, VS.stL, VS.keeps, VS.keep, VS.mkTup, VS.allDat, VS.mkV, VS.pD, VS.pL, VS.pTu, VS.pI, VS.pB, VS.PV.tr, VS.PV.held, VS.toD, VS.toDs, VS.elems, VS.telems, VS.opI, VS.opB, VS.opAdd, VS.opEq, VS.opNe, VS.opIs, VS.opIsNot, VS.isNonT, VS.opIx, VS.subT, VS.datV, VS.ms, VS.noVw, VS.arT, VS.arTs, VS.okM, VS.putM, VS.unM, VS.valsA, VS.argsOut, VS.gNm, VS.gTp, VS.gEach, VS.kidsT, VS.tyT, VS.isTy, VS.bLen, VS.seqN, VS.seqD, VS.bList, VS.bRepr, VS.inR, VS.bSum2, VS.pTi, VS.bIndex, VS.bCount, VS.isLi, VS.opRg, VS.sh_int, VS.sh_bl, VS.sh_str, VS.sh_non, VS.eqv_int, VS.eqv_bl, VS.eqv_str, List.getElem?_cons_zero, List.getElem?_cons_succ, List.length_cons, List.length_nil, List.set_cons_zero, List.set_cons_succ, List.replicate_succ, List.replicate_zero, List.cons_append, List.nil_append, List.map_cons, List.map_nil, Option.map_some, Option.map_none, Option.bind_some, Option.bind_none, if_true, if_false, Bool.true_and, Bool.and_true, Bool.false_and, Bool.and_false, Bool.or_true, Bool.true_or, Bool.false_or, Bool.or_false, List.isEmpty_nil, List.isEmpty_cons, List.nodup_nil, decide_true, Bool.false_eq_true, true_and, and_true, Nat.zero_add, Nat.reduceAdd, Nat.reduceSub, Nat.reduceLT, Option.bind_eq_bind, Option.pure_def]
  refine w_join (fun e => e = [.dat (.int many), .dat (.int low), .dat (.int high), .dat (.int (meantT tot many low high g)), .dat (.bool g)]) ?_ ?_
  · cases tot with
    | none => cases g <;> simp [oD, kI, c1, c2, meantT, toDs_map, toDs_ints, allDat_map, allDat_ints, eqv_ints, sh_ints, sh_nil, eqv_nil, sz_0, sz_1, sz_2, sz_3, sz_4, sz_5, sz_6, sz_7, sz_8, sz_9, sz_10, sz_11, sz_12, sz_13, sz_14, sz_15, sz_16, sz_17, sz_18, sz_19, sz_20, sz_21, sz_22, sz_23, sz_24, sz_25, sz_26, sz_27, sz_28, sz_29, sz_30, sz_31, sz_32, sz_33, sz_34, sz_35, sz_36, sz_37, sz_38, sz_39, sz_40, decide_eq_true_eq, Int.reduceLT, Int.reduceLE, Nat.reduceLeDiff, feedT, nd_one, at2_0, at2_1, at3_0, at3_1, at3_2, ix3_1, ix3_2, set3_1, set3_2, ↓VS.w_var, ↓VS.w_mv, ↓VS.w_c, ↓VS.w_2, ↓VS.w_and, ↓VS.w_or, ↓VS.w_not, ↓VS.w_if, ↓VS.w_ch, ↓VS.w_neg, ↓VS.w_fz, ↓VS.w_nil, ↓VS.w_cons, ↓VS.w_amut, ↓VS.w_disp, ↓VS.w_b, ↓VS.w_isi, ↓VS.w_call, ↓VS.w_rev, ↓VS.w_sl, ↓VS.w_mut, ↓VS.w_snil, ↓VS.w_seq, ↓VS.w_set, ↓VS.w_ret, ↓VS.w_expr, ↓VS.w_ifs, ↓VS.w_asg, ↓VS.w_sto, ↓VS.w_for, ↓VS.w_iof, ↓VS.w_rng, ↓VS.w_isx, ↓VS.w_efn, ↓VS.w_try, ↓VS.w_raise, ↓VS.w_m, ↓VS.w_callV, ↓VS.w_comp, ↓VS.w_yes, ↓VS.wO_some, ↓VS.wO_none, ↓VS.wO_map, ↓VS.wO_ite, VS.kMv, VS.k2b, VS.k2, VS.kQ, VS.kAnd, VS.kOr, VS.kNot, VS.kIf, VS.kChc, VS.kChb, VS.kCh, VS.kNeg, VS.frzV, VS.kFz, VS.kConsB, VS.kCons, VS.kMutA, VS.kUn, VS.kDisp, VS.kB, VS.kIsi, VS.kFo, VS.kCall, VS.kRev, VS.kPartB, VS.kPart, VS.kSlc, VS.kSlb, VS.kSl, VS.kMutT, VS.kMutR, VS.kSeq, VS.kSet, VS.kRet, VS.kExpr, VS.kIfS, VS.kAsg, VS.kStoT, VS.kStoI, VS.kSto, VS.kFor, VS.kOf, VS.kRng, VS.kFn, VS.kCompQ, VS.kComp, VS.kIsx, VS.kTry, VS.exName, VS.kM, VS.kMb, VS.kCv, VS.frz, VS.on1, VS.on2, VS.oErr, VS.opSl, VS.opRev, VS.isL, VS.isDc, VS.moAppend, VS.stL, VS.keeps, VS.keep, VS.mkTup, VS.allDat, VS.mkV, VS.pD, VS.pL, VS.pTu, VS.pI, VS.pB, VS.PV.tr, VS.PV.held, VS.toD, VS.toDs, VS.elems, VS.telems, VS.opI, VS.opB, VS.opAdd, VS.opEq, VS.opNe, VS.opIs, VS.opIsNot, VS.isNonT, VS.opIx, VS.subT, VS.datV, VS.ms, VS.noVw, VS.arT, VS.arTs, VS.okM, VS.putM, VS.unM, VS.valsA, VS.argsOut, VS.gNm, VS.gTp, VS.gEach, VS.kidsT, VS.tyT, VS.isTy, VS.bLen, VS.seqN, VS.seqD, VS.bList, VS.bRepr, VS.inR, VS.bSum2, VS.pTi, VS.bIndex, VS.bCount, VS.isLi, VS.opRg, VS.sh_int, VS.sh_bl, VS.sh_str, VS.sh_non, VS.eqv_int, VS.eqv_bl, VS.eqv_str, List.getElem?_cons_zero, List.getElem?_cons_succ, List.length_cons, List.length_nil, List.set_cons_zero, List.set_cons_succ, List.replicate_succ, List.replicate_zero, List.cons_append, List.nil_append, List.map_cons, List.map_nil, Option.map_some, Option.map_none, Option.bind_some, Option.bind_none, if_true, if_false, Bool.true_and, Bool.and_true, Bool.false_and, Bool.and_false, Bool.or_true, Bool.true_or, Bool.false_or, Bool.or_false, List.isEmpty_nil, List.isEmpty_cons, List.nodup_nil, decide_true, Bool.false_eq_true, true_and, and_true, Nat.zero_add, Nat.reduceAdd, Nat.reduceSub, Nat.reduceLT, Option.bind_eq_bind, Option.pure_def]
    | some t => simp [oD, kI, c1, c2, meantT, toDs_map, toDs_ints, allDat_map, allDat_ints, eqv_ints, sh_ints, sh_nil, eqv_nil, sz_0, sz_1, sz_2, sz_3, sz_4, sz_5, sz_6, sz_7, sz_8, sz_9, sz_10, sz_11, sz_12, sz_13, sz_14, sz_15, sz_16, sz_17, sz_18, sz_19, sz_20, sz_21, sz_22, sz_23, sz_24, sz_25, sz_26, sz_27, sz_28, sz_29, sz_30, sz_31, sz_32, sz_33, sz_34, sz_35, sz_36, sz_37, sz_38, sz_39, sz_40, decide_eq_true_eq, Int.reduceLT, Int.reduceLE, Nat.reduceLeDiff, feedT, nd_one, at2_0, at2_1, at3_0, at3_1, at3_2, ix3_1, ix3_2, set3_1, set3_2, ↓VS.w_var, ↓VS.w_mv, ↓VS.w_c, ↓VS.w_2, ↓VS.w_and, ↓VS.w_or, ↓VS.w_not, ↓VS.w_if, ↓VS.w_ch, ↓VS.w_neg, ↓VS.w_fz, ↓VS.w_nil, ↓VS.w_cons, ↓VS.w_amut, ↓VS.w_disp, ↓VS.w_b, ↓VS.w_isi, ↓VS.w_call, ↓VS.w_rev, ↓VS.w_sl, ↓VS.w_mut, ↓VS.w_snil, ↓VS.w_seq, ↓VS.w_set, ↓VS.w_ret, ↓VS.w_expr, ↓VS.w_ifs, ↓VS.w_asg, ↓VS.w_sto, ↓VS.w_for, ↓VS.w_iof, ↓VS.w_rng, ↓VS.w_isx, ↓VS.w_efn, ↓VS.w_try, ↓VS.w_raise, ↓VS.w_m, ↓VS.w_callV, ↓VS.w_comp, ↓VS.w_yes, ↓VS.wO_some, ↓VS.wO_none, ↓VS.wO_map, ↓VS.wO_ite, VS.kMv, VS.k2b, VS.k2, VS.kQ, VS.kAnd, VS.kOr, VS.kNot, VS.kIf, VS.kChc, VS.kChb, VS.kCh, VS.kNeg, VS.frzV, VS.kFz, VS.kConsB, VS.kCons, VS.kMutA, VS.kUn, VS.kDisp, VS.kB, VS.kIsi, VS.kFo, VS.kCall, VS.kRev, VS.kPartB, VS.kPart, VS.kSlc, VS.kSlb, VS.kSl, VS.kMutT, VS.kMutR, VS.kSeq, VS.kSet, VS.kRet, VS.kExpr, VS.kIfS, VS.kAsg, VS.kStoT, VS.kStoI, VS.kSto, VS.kFor, VS.kOf, VS.kRng, VS.kFn, VS.kCompQ, VS.kComp, VS.kIsx, VS.kTry, VS.exName, VS.kM, VS.kMb, VS.kCv, VS.frz, VS.on1, VS.on2, VS.oErr, VS.opSl, VS.opRev, VS.isL, VS.isDc, VS.moAppend, VS.stL, VS.keeps, VS.keep, VS.mkTup, VS.allDat, VS.mkV, VS.pD, VS.pL, VS.pTu, VS.pI, VS.pB, VS.PV.tr, VS.PV.held, VS.toD, VS.toDs, VS.elems, VS.telems, VS.opI, VS.opB, VS.opAdd, VS.opEq, VS.opNe, VS.opIs, VS.opIsNot, VS.isNonT, VS.opIx, VS.subT, VS.datV, VS.ms, VS.noVw, VS.arT, VS.arTs, VS.okM, VS.putM, VS.unM, VS.valsA, VS.argsOut, VS.gNm, VS.gTp, VS.gEach, VS.kidsT, VS.tyT, VS.isTy, VS.bLen, VS.seqN, VS.seqD, VS.bList, VS.bRepr, VS.inR, VS.bSum2, VS.pTi, VS.bIndex, VS.bCount, VS.isLi, VS.opRg, VS.sh_int, VS.sh_bl, VS.sh_str, VS.sh_non, VS.eqv_int, VS.eqv_bl, VS.eqv_str, List.getElem?_cons_zero, List.getElem?_cons_succ, List.length_cons, List.length_nil, List.set_cons_zero, List.set_cons_succ, List.replicate_succ, List.replicate_zero, List.cons_append, List.nil_append, List.map_cons, List.map_nil, Option.map_some, Option.map_none, Option.bind_some, Option.bind_none, if_true, if_false, Bool.true_and, Bool.and_true, Bool.false_and, Bool.and_false, Bool.or_true, Bool.true_or, Bool.false_or, Bool.or_false, List.isEmpty_nil, List.isEmpty_cons, List.nodup_nil, decide_true, Bool.false_eq_true, true_and, and_true, Nat.zero_add, Nat.reduceAdd, Nat.reduceSub, Nat.reduceLT, Option.bind_eq_bind, Option.pure_def]
  · rintro e rfl
    simp only [c1, c2, m1, m2, VS.w_stuck, toDs_map, toDs_ints, allDat_map, allDat_ints, eqv_ints, sh_ints, sh_nil, eqv_nil, sz_0, sz_1, sz_2, sz_3, sz_4, sz_5, sz_6, sz_7, sz_8, sz_9, sz_10, sz_11, sz_12, sz_13, sz_14, sz_15, sz_16, sz_17, sz_18, sz_19, sz_20, sz_21, sz_22, sz_23, sz_24, sz_25, sz_26, sz_27, sz_28, sz_29, sz_30, sz_31, sz_32, sz_33, sz_34, sz_35, sz_36, sz_37, sz_38, sz_39, sz_40, decide_eq_true_eq, Int.reduceLT, Int.reduceLE, Nat.reduceLeDiff, feedT, nd_one, at2_0, at2_1, at3_0, at3_1, at3_2, ix3_1, ix3_2, set3_1, set3_2, ↓VS.w_var, ↓VS.w_mv, ↓VS.w_c, ↓VS.w_2, ↓VS.w_and, ↓VS.w_or, ↓VS.w_not, ↓VS.w_if, ↓VS.w_ch, ↓VS.w_neg, ↓VS.w_fz, ↓VS.w_nil, ↓VS.w_cons, ↓VS.w_amut, ↓VS.w_disp, ↓VS.w_b, ↓VS.w_isi, ↓VS.w_call, ↓VS.w_rev, ↓VS.w_sl, ↓VS.w_mut, ↓VS.w_snil, ↓VS.w_seq, ↓VS.w_set, ↓VS.w_ret, ↓VS.w_expr, ↓VS.w_ifs, ↓VS.w_asg, ↓VS.w_sto, ↓VS.w_for, ↓VS.w_iof, ↓VS.w_rng, ↓VS.w_isx, ↓VS.w_efn, ↓VS.w_try, ↓VS.w_raise, ↓VS.w_m, ↓VS.w_callV, ↓VS.w_comp, ↓VS.w_yes, ↓VS.wO_some, ↓VS.wO_none, ↓VS.wO_map, ↓VS.wO_ite, VS.kMv, VS.k2b, VS.k2, VS.kQ, VS.kAnd, VS.kOr, VS.kNot, VS.kIf, VS.kChc, VS.kChb, VS.kCh, VS.kNeg, VS.frzV, VS.kFz, VS.kConsB, VS.kCons, VS.kMutA, VS.kUn, VS.kDisp, VS.kB, VS.kIsi, VS.kFo, VS.kCall, VS.kRev, VS.kPartB, VS.kPart, VS.kSlc, VS.kSlb, VS.kSl, VS.kMutT, VS.kMutR, VS.kSeq, VS.kSet, VS.kRet, VS.kExpr, VS.kIfS, VS.kAsg, VS.kStoT, VS.kStoI, VS.kSto, VS.kFor, VS.kOf, VS.kRng, VS.kFn, VS.kCompQ, VS.kComp, VS.kIsx, VS.kTry, VS.exName, VS.kM, VS.kMb, VS.kCv, VS.frz, VS.on1, VS.on2, VS.oErr, VS.opSl, VS.opRev, VS.isL, VS.isDc, VS.moAppend, VS.stL, VS.keeps, VS.keep, VS.mkTup, VS.allDat, VS.mkV, VS.pD, VS.pL, VS.pTu, VS.pI, VS.pB, VS.PV.tr, VS.PV.held, VS.toD, VS.toDs, VS.elems, VS.telems, VS.opI, VS.opB, VS.opAdd, VS.opEq, VS.opNe, VS.opIs, VS.opIsNot, VS.isNonT, VS.opIx, VS.subT, VS.datV, VS.ms, VS.noVw, VS.arT, VS.arTs, VS.okM, VS.putM, VS.unM, VS.valsA, VS.argsOut, VS.gNm, VS.gTp, VS.gEach, VS.kidsT, VS.tyT, VS.isTy, VS.bLen, VS.seqN, VS.seqD, VS.bList, VS.bRepr, VS.inR, VS.bSum2, VS.pTi, VS.bIndex, VS.bCount, VS.isLi, VS.opRg, VS.sh_int, VS.sh_bl, VS.sh_str, VS.sh_non, VS.eqv_int, VS.eqv_bl, VS.eqv_str, List.getElem?_cons_zero, List.getElem?_cons_succ, List.length_cons, List.length_nil, List.set_cons_zero, List.set_cons_succ, List.replicate_succ, List.replicate_zero, List.cons_append, List.nil_append, List.map_cons, List.map_nil, Option.map_some, Option.map_none, Option.bind_some, Option.bind_none, if_true, if_false, Bool.true_and, Bool.and_true, Bool.false_and, Bool.and_false, Bool.or_true, Bool.true_or, Bool.false_or, Bool.or_false, List.isEmpty_nil, List.isEmpty_cons, List.nodup_nil, decide_true, Bool.false_eq_true, true_and, and_true, Nat.zero_add, Nat.reduceAdd, Nat.reduceSub, Nat.reduceLT, Option.bind_eq_bind, Option.pure_def]
    simp only [decide_true, Bool.not_true, Bool.false_eq_true, if_false, if_true, toDs_map, toDs_ints, allDat_map, allDat_ints, eqv_ints, sh_ints, sh_nil, eqv_nil, sz_0, sz_1, sz_2, sz_3, sz_4, sz_5, sz_6, sz_7, sz_8, sz_9, sz_10, sz_11, sz_12, sz_13, sz_14, sz_15, sz_16, sz_17, sz_18, sz_19, sz_20, sz_21, sz_22, sz_23, sz_24, sz_25, sz_26, sz_27, sz_28, sz_29, sz_30, sz_31, sz_32, sz_33, sz_34, sz_35, sz_36, sz_37, sz_38, sz_39, sz_40, decide_eq_true_eq, Int.reduceLT, Int.reduceLE, Nat.reduceLeDiff, feedT, nd_one, at2_0, at2_1, at3_0, at3_1, at3_2, ix3_1, ix3_2, set3_1, set3_2, ↓VS.w_var, ↓VS.w_mv, ↓VS.w_c, ↓VS.w_2, ↓VS.w_and, ↓VS.w_or, ↓VS.w_not, ↓VS.w_if, ↓VS.w_ch, ↓VS.w_neg, ↓VS.w_fz, ↓VS.w_nil, ↓VS.w_cons, ↓VS.w_amut, ↓VS.w_disp, ↓VS.w_b, ↓VS.w_isi, ↓VS.w_call, ↓VS.w_rev, ↓VS.w_sl, ↓VS.w_mut, ↓VS.w_snil, ↓VS.w_seq, ↓VS.w_set, ↓VS.w_ret, ↓VS.w_expr, ↓VS.w_ifs, ↓VS.w_asg, ↓VS.w_sto, ↓VS.w_for, ↓VS.w_iof, ↓VS.w_rng, ↓VS.w_isx, ↓VS.w_efn, ↓VS.w_try, ↓VS.w_raise, ↓VS.w_m, ↓VS.w_callV, ↓VS.w_comp, ↓VS.w_yes, ↓VS.wO_some, ↓VS.wO_none, ↓VS.wO_map, ↓VS.wO_ite, VS.kMv, VS.k2b, VS.k2, VS.kQ, VS.kAnd, VS.kOr, VS.kNot, VS.kIf, VS.kChc, VS.kChb, VS.kCh, VS.kNeg, VS.frzV, VS.kFz, VS.kConsB, VS.kCons, VS.kMutA, VS.kUn, VS.kDisp, VS.kB, VS.kIsi, VS.kFo, VS.kCall, VS.kRev, VS.kPartB, VS.kPart, VS.kSlc, VS.kSlb, VS.kSl, VS.kMutT, VS.kMutR, VS.kSeq, VS.kSet, VS.kRet, VS.kExpr, VS.kIfS, VS.kAsg, VS.kStoT, VS.kStoI, VS.kSto, VS.kFor, VS.kOf, VS.kRng, VS.kFn, VS.kCompQ, VS.kComp, VS.kIsx, VS.kTry, VS.exName, VS.kM, VS.kMb, VS.kCv, VS.frz, VS.on1, VS.on2, VS.oErr, VS.opSl, VS.opRev, VS.isL, VS.isDc, VS.moAppend, VS.stL, VS.keeps, VS.keep, VS.mkTup, VS.allDat, VS.mkV, VS.pD, VS.pL, VS.pTu, VS.pI, VS.pB, VS.PV.tr, VS.PV.held, VS.toD, VS.toDs, VS.elems, VS.telems, VS.opI, VS.opB, VS.opAdd, VS.opEq, VS.opNe, VS.opIs, VS.opIsNot, VS.isNonT, VS.opIx, VS.subT, VS.datV, VS.ms, VS.noVw, VS.arT, VS.arTs, VS.okM, VS.putM, VS.unM, VS.valsA, VS.argsOut, VS.gNm, VS.gTp, VS.gEach, VS.kidsT, VS.tyT, VS.isTy, VS.bLen, VS.seqN, VS.seqD, VS.bList, VS.bRepr, VS.inR, VS.bSum2, VS.pTi, VS.bIndex, VS.bCount, VS.isLi, VS.opRg, VS.sh_int, VS.sh_bl, VS.sh_str, VS.sh_non, VS.eqv_int, VS.eqv_bl, VS.eqv_str, List.getElem?_cons_zero, List.getElem?_cons_succ, List.length_cons, List.length_nil, List.set_cons_zero, List.set_cons_succ, List.replicate_succ, List.replicate_zero, List.cons_append, List.nil_append, List.map_cons, List.map_nil, Option.map_some, Option.map_none, Option.bind_some, Option.bind_none, if_true, if_false, Bool.true_and, Bool.and_true, Bool.false_and, Bool.and_false, Bool.or_true, Bool.true_or, Bool.false_or, Bool.or_false, List.isEmpty_nil, List.isEmpty_cons, List.nodup_nil, decide_true, Bool.false_eq_true, true_and, and_true, Nat.zero_add, Nat.reduceAdd, Nat.reduceSub, Nat.reduceLT, Option.bind_eq_bind, Option.pure_def]
    exact hQ
def neg (vs : List Int) : List Int := vs.map fun v => 0 - v
theorem neg_len (vs : List Int) : (neg vs).length = vs.length := List.length_map _
theorem sz_of {n : Nat} (h : n ≤ 100000) : n ≤ sizeLine := by rw [PySem.sizeLine_eq]; omega
theorem pLi (ns : List Int) : VS.pL (.fr (.dat (.list (ns.map .int)))) = some (ns.map .int) := rfl
theorem e_about {kept : List Int} {many : Nat} {low high total : Int} {Q : Fo → Prop} (hk : kept.length ≤ 100000)
    (hQ : Q (.ret (.dat (.tuple [.list ((neg kept).map .int), knownD many (0 - high) (0 - low) (0 - total)])) [.dat (.list (kept.map .int)), .dat (knownD many low high total)])) :
    WF F_about [.dat (.list (kept.map .int)), .dat (knownD many low high total)] Q := by
  unfold F_about
  rw [w_fn (by rfl)]
  unfold g_about knownD
  have hs : kept.length ≤ sizeLine := sz_of hk
  simp only [wipeE, calmT, List.getD_cons_zero, List.getD_cons_succ, List.all_cons, List.all_nil, List.length_map, hs, toDs_map, toDs_ints, allDat_map, allDat_ints, eqv_ints, sh_ints, sh_nil, eqv_nil, sz_0, sz_1, sz_2, sz_3, sz_4, sz_5, sz_6, sz_7, sz_8, sz_9, sz_10, sz_11, sz_12, sz_13, sz_14, sz_15, sz_16, sz_17, sz_18, sz_19, sz_20, sz_21, sz_22, sz_23, sz_24, sz_25, sz_26, sz_27, sz_28, sz_29, sz_30, sz_31, sz_32, sz_33, sz_34, sz_35, sz_36, sz_37, sz_38, sz_39, sz_40, decide_eq_true_eq, Int.reduceLT, Int.reduceLE, Nat.reduceLeDiff, feedT, nd_one, at2_0, at2_1, at3_0, at3_1, at3_2, ix3_1, ix3_2, set3_1, set3_2, ↓VS.w_var, ↓VS.w_mv, ↓VS.w_c, ↓VS.w_2, ↓VS.w_and, ↓VS.w_or, ↓VS.w_not, ↓VS.w_if, ↓VS.w_ch, ↓VS.w_neg, ↓VS.w_fz, ↓VS.w_nil, ↓VS.w_cons, ↓VS.w_amut, ↓VS.w_disp, ↓VS.w_b, ↓VS.w_isi, ↓VS.w_call, ↓VS.w_rev, ↓VS.w_sl, ↓VS.w_mut, ↓VS.w_snil, ↓VS.w_seq, ↓VS.w_set, ↓VS.w_ret, ↓VS.w_expr, ↓VS.w_asg, ↓VS.w_sto, ↓VS.w_for, ↓VS.w_iof, ↓VS.w_rng, ↓VS.w_isx, ↓VS.w_efn, ↓VS.w_try, ↓VS.w_raise, ↓VS.w_m, ↓VS.w_callV, ↓VS.w_comp, ↓VS.w_yes, ↓VS.wO_some, ↓VS.wO_none, ↓VS.wO_map, ↓VS.wO_ite, VS.kMv, VS.k2b, VS.k2, VS.kQ, VS.kAnd, VS.kOr, VS.kNot, VS.kIf, VS.kChc, VS.kChb, VS.kCh, VS.kNeg, VS.frzV, VS.kFz, VS.kConsB, VS.kCons, VS.kMutA, VS.kUn, VS.kDisp, VS.kB, VS.kIsi, VS.kFo, VS.kCall, VS.kRev, VS.kPartB, VS.kPart, VS.kSlc, VS.kSlb, VS.kSl, VS.kMutT, VS.kMutR, VS.kSeq, VS.kSet, VS.kRet, VS.kExpr, VS.kIfS, VS.kAsg, VS.kStoT, VS.kStoI, VS.kSto, VS.kFor, VS.kOf, VS.kRng, VS.kFn, VS.kCompQ, VS.kComp, VS.kIsx, VS.kTry, VS.exName, VS.kM, VS.kMb, VS.kCv, VS.frz, VS.on1, VS.on2, VS.oErr, VS.opSl, VS.opRev, VS.isL, VS.isDc, VS.moAppend, VS.stL, VS.keeps, VS.keep, VS.mkTup, VS.allDat, VS.mkV, VS.pD, VS.pL, VS.pTu, VS.pI, VS.pB, VS.PV.tr, VS.PV.held, VS.toD, VS.toDs, VS.elems, VS.telems, VS.opI, VS.opB, VS.opAdd, VS.opEq, VS.opNe, VS.opIs, VS.opIsNot, VS.isNonT, VS.opIx, VS.subT, VS.datV, VS.ms, VS.noVw, VS.arT, VS.arTs, VS.okM, VS.putM, VS.unM, VS.valsA, VS.argsOut, VS.gNm, VS.gTp, VS.gEach, VS.kidsT, VS.tyT, VS.isTy, VS.bLen, VS.seqN, VS.seqD, VS.bList, VS.bRepr, VS.inR, VS.bSum2, VS.pTi, VS.bIndex, VS.bCount, VS.isLi, VS.opRg, VS.sh_int, VS.sh_bl, VS.sh_str, VS.sh_non, VS.eqv_int, VS.eqv_bl, VS.eqv_str, List.getElem?_cons_zero, List.getElem?_cons_succ, List.length_cons, List.length_nil, List.set_cons_zero, List.set_cons_succ, List.replicate_succ, List.replicate_zero, List.cons_append, List.nil_append, List.map_cons, List.map_nil, Option.map_some, Option.map_none, Option.bind_some, Option.bind_none, if_true, if_false, Bool.true_and, Bool.and_true, Bool.false_and, Bool.and_false, Bool.or_true, Bool.true_or, Bool.false_or, Bool.or_false, List.isEmpty_nil, List.isEmpty_cons, List.nodup_nil, decide_true, Bool.false_eq_true, true_and, and_true, Nat.zero_add, Nat.reduceAdd, Nat.reduceSub, Nat.reduceLT, Option.bind_eq_bind, Option.pure_def]
  refine wc_ints (fun _ => true) (fun v => 0 - v) rfl (fun n hn => ⟨_, rfl, rfl, ?_, fun _ => ?_⟩) ?_
  · simp only [toDs_map, toDs_ints, allDat_map, allDat_ints, eqv_ints, sh_ints, sh_nil, eqv_nil, sz_0, sz_1, sz_2, sz_3, sz_4, sz_5, sz_6, sz_7, sz_8, sz_9, sz_10, sz_11, sz_12, sz_13, sz_14, sz_15, sz_16, sz_17, sz_18, sz_19, sz_20, sz_21, sz_22, sz_23, sz_24, sz_25, sz_26, sz_27, sz_28, sz_29, sz_30, sz_31, sz_32, sz_33, sz_34, sz_35, sz_36, sz_37, sz_38, sz_39, sz_40, decide_eq_true_eq, Int.reduceLT, Int.reduceLE, Nat.reduceLeDiff, feedT, nd_one, at2_0, at2_1, at3_0, at3_1, at3_2, ix3_1, ix3_2, set3_1, set3_2, ↓VS.w_var, ↓VS.w_mv, ↓VS.w_c, ↓VS.w_2, ↓VS.w_and, ↓VS.w_or, ↓VS.w_not, ↓VS.w_if, ↓VS.w_ch, ↓VS.w_neg, ↓VS.w_fz, ↓VS.w_nil, ↓VS.w_cons, ↓VS.w_amut, ↓VS.w_disp, ↓VS.w_b, ↓VS.w_isi, ↓VS.w_call, ↓VS.w_rev, ↓VS.w_sl, ↓VS.w_mut, ↓VS.w_snil, ↓VS.w_seq, ↓VS.w_set, ↓VS.w_ret, ↓VS.w_expr, ↓VS.w_ifs, ↓VS.w_asg, ↓VS.w_sto, ↓VS.w_for, ↓VS.w_iof, ↓VS.w_rng, ↓VS.w_isx, ↓VS.w_efn, ↓VS.w_try, ↓VS.w_raise, ↓VS.w_m, ↓VS.w_callV, ↓VS.w_comp, ↓VS.w_yes, ↓VS.wO_some, ↓VS.wO_none, ↓VS.wO_map, ↓VS.wO_ite, VS.kMv, VS.k2b, VS.k2, VS.kQ, VS.kAnd, VS.kOr, VS.kNot, VS.kIf, VS.kChc, VS.kChb, VS.kCh, VS.kNeg, VS.frzV, VS.kFz, VS.kConsB, VS.kCons, VS.kMutA, VS.kUn, VS.kDisp, VS.kB, VS.kIsi, VS.kFo, VS.kCall, VS.kRev, VS.kPartB, VS.kPart, VS.kSlc, VS.kSlb, VS.kSl, VS.kMutT, VS.kMutR, VS.kSeq, VS.kSet, VS.kRet, VS.kExpr, VS.kIfS, VS.kAsg, VS.kStoT, VS.kStoI, VS.kSto, VS.kFor, VS.kOf, VS.kRng, VS.kFn, VS.kCompQ, VS.kComp, VS.kIsx, VS.kTry, VS.exName, VS.kM, VS.kMb, VS.kCv, VS.frz, VS.on1, VS.on2, VS.oErr, VS.opSl, VS.opRev, VS.isL, VS.isDc, VS.moAppend, VS.stL, VS.keeps, VS.keep, VS.mkTup, VS.allDat, VS.mkV, VS.pD, VS.pL, VS.pTu, VS.pI, VS.pB, VS.PV.tr, VS.PV.held, VS.toD, VS.toDs, VS.elems, VS.telems, VS.opI, VS.opB, VS.opAdd, VS.opEq, VS.opNe, VS.opIs, VS.opIsNot, VS.isNonT, VS.opIx, VS.subT, VS.datV, VS.ms, VS.noVw, VS.arT, VS.arTs, VS.okM, VS.putM, VS.unM, VS.valsA, VS.argsOut, VS.gNm, VS.gTp, VS.gEach, VS.kidsT, VS.tyT, VS.isTy, VS.bLen, VS.seqN, VS.seqD, VS.bList, VS.bRepr, VS.inR, VS.bSum2, VS.pTi, VS.bIndex, VS.bCount, VS.isLi, VS.opRg, VS.sh_int, VS.sh_bl, VS.sh_str, VS.sh_non, VS.eqv_int, VS.eqv_bl, VS.eqv_str, List.getElem?_cons_zero, List.getElem?_cons_succ, List.length_cons, List.length_nil, List.set_cons_zero, List.set_cons_succ, List.replicate_succ, List.replicate_zero, List.cons_append, List.nil_append, List.map_cons, List.map_nil, Option.map_some, Option.map_none, Option.bind_some, Option.bind_none, if_true, if_false, Bool.true_and, Bool.and_true, Bool.false_and, Bool.and_false, Bool.or_true, Bool.true_or, Bool.false_or, Bool.or_false, List.isEmpty_nil, List.isEmpty_cons, List.nodup_nil, decide_true, Bool.false_eq_true, true_and, and_true, Nat.zero_add, Nat.reduceAdd, Nat.reduceSub, Nat.reduceLT, Option.bind_eq_bind, Option.pure_def]; exact ⟨_, rfl, rfl⟩
  · simp only [toDs_map, toDs_ints, allDat_map, allDat_ints, eqv_ints, sh_ints, sh_nil, eqv_nil, sz_0, sz_1, sz_2, sz_3, sz_4, sz_5, sz_6, sz_7, sz_8, sz_9, sz_10, sz_11, sz_12, sz_13, sz_14, sz_15, sz_16, sz_17, sz_18, sz_19, sz_20, sz_21, sz_22, sz_23, sz_24, sz_25, sz_26, sz_27, sz_28, sz_29, sz_30, sz_31, sz_32, sz_33, sz_34, sz_35, sz_36, sz_37, sz_38, sz_39, sz_40, decide_eq_true_eq, Int.reduceLT, Int.reduceLE, Nat.reduceLeDiff, feedT, nd_one, at2_0, at2_1, at3_0, at3_1, at3_2, ix3_1, ix3_2, set3_1, set3_2, ↓VS.w_var, ↓VS.w_mv, ↓VS.w_c, ↓VS.w_2, ↓VS.w_and, ↓VS.w_or, ↓VS.w_not, ↓VS.w_if, ↓VS.w_ch, ↓VS.w_neg, ↓VS.w_fz, ↓VS.w_nil, ↓VS.w_cons, ↓VS.w_amut, ↓VS.w_disp, ↓VS.w_b, ↓VS.w_isi, ↓VS.w_call, ↓VS.w_rev, ↓VS.w_sl, ↓VS.w_mut, ↓VS.w_snil, ↓VS.w_seq, ↓VS.w_set, ↓VS.w_ret, ↓VS.w_expr, ↓VS.w_ifs, ↓VS.w_asg, ↓VS.w_sto, ↓VS.w_for, ↓VS.w_iof, ↓VS.w_rng, ↓VS.w_isx, ↓VS.w_efn, ↓VS.w_try, ↓VS.w_raise, ↓VS.w_m, ↓VS.w_callV, ↓VS.w_comp, ↓VS.w_yes, ↓VS.wO_some, ↓VS.wO_none, ↓VS.wO_map, ↓VS.wO_ite, VS.kMv, VS.k2b, VS.k2, VS.kQ, VS.kAnd, VS.kOr, VS.kNot, VS.kIf, VS.kChc, VS.kChb, VS.kCh, VS.kNeg, VS.frzV, VS.kFz, VS.kConsB, VS.kCons, VS.kMutA, VS.kUn, VS.kDisp, VS.kB, VS.kIsi, VS.kFo, VS.kCall, VS.kRev, VS.kPartB, VS.kPart, VS.kSlc, VS.kSlb, VS.kSl, VS.kMutT, VS.kMutR, VS.kSeq, VS.kSet, VS.kRet, VS.kExpr, VS.kIfS, VS.kAsg, VS.kStoT, VS.kStoI, VS.kSto, VS.kFor, VS.kOf, VS.kRng, VS.kFn, VS.kCompQ, VS.kComp, VS.kIsx, VS.kTry, VS.exName, VS.kM, VS.kMb, VS.kCv, VS.frz, VS.on1, VS.on2, VS.oErr, VS.opSl, VS.opRev, VS.isL, VS.isDc, VS.moAppend, VS.stL, VS.keeps, VS.keep, VS.mkTup, VS.allDat, VS.mkV, VS.pD, VS.pL, VS.pTu, VS.pI, VS.pB, VS.PV.tr, VS.PV.held, VS.toD, VS.toDs, VS.elems, VS.telems, VS.opI, VS.opB, VS.opAdd, VS.opEq, VS.opNe, VS.opIs, VS.opIsNot, VS.isNonT, VS.opIx, VS.subT, VS.datV, VS.ms, VS.noVw, VS.arT, VS.arTs, VS.okM, VS.putM, VS.unM, VS.valsA, VS.argsOut, VS.gNm, VS.gTp, VS.gEach, VS.kidsT, VS.tyT, VS.isTy, VS.bLen, VS.seqN, VS.seqD, VS.bList, VS.bRepr, VS.inR, VS.bSum2, VS.pTi, VS.bIndex, VS.bCount, VS.isLi, VS.opRg, VS.sh_int, VS.sh_bl, VS.sh_str, VS.sh_non, VS.eqv_int, VS.eqv_bl, VS.eqv_str, List.getElem?_cons_zero, List.getElem?_cons_succ, List.length_cons, List.length_nil, List.set_cons_zero, List.set_cons_succ, List.replicate_succ, List.replicate_zero, List.cons_append, List.nil_append, List.map_cons, List.map_nil, Option.map_some, Option.map_none, Option.bind_some, Option.bind_none, if_true, if_false, Bool.true_and, Bool.and_true, Bool.false_and, Bool.and_false, Bool.or_true, Bool.true_or, Bool.false_or, Bool.or_false, List.isEmpty_nil, List.isEmpty_cons, List.nodup_nil, decide_true, Bool.false_eq_true, true_and, and_true, Nat.zero_add, Nat.reduceAdd, Nat.reduceSub, Nat.reduceLT, Option.bind_eq_bind, Option.pure_def]; exact ⟨_, rfl, rfl⟩
  · rw [filter_tt, List.nil_append]
    simp only [kCompQ, toDs_ints, toDs_map, toDs_ints, allDat_map, allDat_ints, eqv_ints, sh_ints, sh_nil, eqv_nil, sz_0, sz_1, sz_2, sz_3, sz_4, sz_5, sz_6, sz_7, sz_8, sz_9, sz_10, sz_11, sz_12, sz_13, sz_14, sz_15, sz_16, sz_17, sz_18, sz_19, sz_20, sz_21, sz_22, sz_23, sz_24, sz_25, sz_26, sz_27, sz_28, sz_29, sz_30, sz_31, sz_32, sz_33, sz_34, sz_35, sz_36, sz_37, sz_38, sz_39, sz_40, decide_eq_true_eq, Int.reduceLT, Int.reduceLE, Nat.reduceLeDiff, feedT, nd_one, at2_0, at2_1, at3_0, at3_1, at3_2, ix3_1, ix3_2, set3_1, set3_2, ↓VS.w_var, ↓VS.w_mv, ↓VS.w_c, ↓VS.w_2, ↓VS.w_and, ↓VS.w_or, ↓VS.w_not, ↓VS.w_if, ↓VS.w_ch, ↓VS.w_neg, ↓VS.w_fz, ↓VS.w_nil, ↓VS.w_cons, ↓VS.w_amut, ↓VS.w_disp, ↓VS.w_b, ↓VS.w_isi, ↓VS.w_call, ↓VS.w_rev, ↓VS.w_sl, ↓VS.w_mut, ↓VS.w_snil, ↓VS.w_seq, ↓VS.w_set, ↓VS.w_ret, ↓VS.w_expr, ↓VS.w_ifs, ↓VS.w_asg, ↓VS.w_sto, ↓VS.w_for, ↓VS.w_iof, ↓VS.w_rng, ↓VS.w_isx, ↓VS.w_efn, ↓VS.w_try, ↓VS.w_raise, ↓VS.w_m, ↓VS.w_callV, ↓VS.w_comp, ↓VS.w_yes, ↓VS.wO_some, ↓VS.wO_none, ↓VS.wO_map, ↓VS.wO_ite, VS.kMv, VS.k2b, VS.k2, VS.kQ, VS.kAnd, VS.kOr, VS.kNot, VS.kIf, VS.kChc, VS.kChb, VS.kCh, VS.kNeg, VS.frzV, VS.kFz, VS.kConsB, VS.kCons, VS.kMutA, VS.kUn, VS.kDisp, VS.kB, VS.kIsi, VS.kFo, VS.kCall, VS.kRev, VS.kPartB, VS.kPart, VS.kSlc, VS.kSlb, VS.kSl, VS.kMutT, VS.kMutR, VS.kSeq, VS.kSet, VS.kRet, VS.kExpr, VS.kIfS, VS.kAsg, VS.kStoT, VS.kStoI, VS.kSto, VS.kFor, VS.kOf, VS.kRng, VS.kFn, VS.kCompQ, VS.kComp, VS.kIsx, VS.kTry, VS.exName, VS.kM, VS.kMb, VS.kCv, VS.frz, VS.on1, VS.on2, VS.oErr, VS.opSl, VS.opRev, VS.isL, VS.isDc, VS.moAppend, VS.stL, VS.keeps, VS.keep, VS.mkTup, VS.allDat, VS.mkV, VS.pD, VS.pL, VS.pTu, VS.pI, VS.pB, VS.PV.tr, VS.PV.held, VS.toD, VS.toDs, VS.elems, VS.telems, VS.opI, VS.opB, VS.opAdd, VS.opEq, VS.opNe, VS.opIs, VS.opIsNot, VS.isNonT, VS.opIx, VS.subT, VS.datV, VS.ms, VS.noVw, VS.arT, VS.arTs, VS.okM, VS.putM, VS.unM, VS.valsA, VS.argsOut, VS.gNm, VS.gTp, VS.gEach, VS.kidsT, VS.tyT, VS.isTy, VS.bLen, VS.seqN, VS.seqD, VS.bList, VS.bRepr, VS.inR, VS.bSum2, VS.pTi, VS.bIndex, VS.bCount, VS.isLi, VS.opRg, VS.sh_int, VS.sh_bl, VS.sh_str, VS.sh_non, VS.eqv_int, VS.eqv_bl, VS.eqv_str, List.getElem?_cons_zero, List.getElem?_cons_succ, List.length_cons, List.length_nil, List.set_cons_zero, List.set_cons_succ, List.replicate_succ, List.replicate_zero, List.cons_append, List.nil_append, List.map_cons, List.map_nil, Option.map_some, Option.map_none, Option.bind_some, Option.bind_none, if_true, if_false, Bool.true_and, Bool.and_true, Bool.false_and, Bool.and_false, Bool.or_true, Bool.true_or, Bool.false_or, Bool.or_false, List.isEmpty_nil, List.isEmpty_cons, List.nodup_nil, decide_true, Bool.false_eq_true, true_and, and_true, Nat.zero_add, Nat.reduceAdd, Nat.reduceSub, Nat.reduceLT, Option.bind_eq_bind, Option.pure_def]
    exact hQ
theorem max0 (x : Int) : (if x > 0 then x else 0) = max 0 x := by split <;> omega
end k62

set_option Elab.async false
set_option linter.all false
set_option maxRecDepth 100000
set_option backward.isDefEq.respectTransparency false
set_option maxHeartbeats 4000000
namespace k62
open PySem PySem.Spec VS PM
theorem perm_sum {a b : List Int} (h : a.Perm b) : a.sum = b.sum := by
  induction h with
  | nil => rfl
  | cons x _ ih => rw [List.sum_cons, List.sum_cons, ih]
  | swap x y l => simp only [List.sum_cons]; omega
  | trans _ _ i j => rw [i, j]
/-- what is known, and can be -/
structure KC (many : Nat) (low high total : Int) : Prop where
  mb : many ≤ 1000
  lh : low ≤ high
  lb : -(10 ^ 37) ≤ low
  hb : high ≤ 10 ^ 37
  t1 : (many : Int) * low ≤ total
  t2 : total ≤ many * high
theorem KC.neg {many : Nat} {low high total : Int} (c : KC many low high total) : KC many (0 - high) (0 - low) (0 - total) := by
  have h1 := c.t1
  have h2 := c.t2
  have h3 := c.lh
  have h4 := c.lb
  have h5 := c.hb
  refine ⟨c.mb, by omega, by omega, by omega, ?_, ?_⟩
  · rw [Int.mul_sub, Int.mul_zero]; omega
  · rw [Int.mul_sub, Int.mul_zero]; omega
theorem KC.tb {many : Nat} {low high total : Int} (c : KC many low high total) : B50 total := by
  have h1 := c.t1
  have h2 := c.t2
  have h3 := c.lb
  have h4 := c.hb
  have h5 := c.mb
  have b : (many : Int) * (-(10 ^ 37)) ≤ many * low := Int.mul_le_mul_of_nonneg_left h3 (by omega)
  have d : (many : Int) * high ≤ many * 10 ^ 37 := Int.mul_le_mul_of_nonneg_left h4 (by omega)
  unfold B50
  omega
theorem Case.kc {kept : List Int} {many : Nat} {low high : Int} {tot : Option Int} (c : Case kept many low high tot) (g : Bool) : KC many low high (meantT tot many low high g) :=
  ⟨c.mb, c.lh, c.lb, c.hb, (c.meant g).1, (c.meant g).2⟩
end k62

set_option Elab.async false
set_option linter.all false
set_option maxRecDepth 100000
set_option backward.isDefEq.respectTransparency false
set_option maxHeartbeats 4000000
namespace k62
open PySem PySem.Spec VS PM
theorem e_least_over {many : Nat} {low high total x : Int} {Q : Fo → Prop} (c : KC many low high total) (hx : -(10 ^ 39) ≤ x ∧ x ≤ 10 ^ 39)
    (hQ : Q (.ret (.dat (.int (leastOver many low high total x))) [.dat (knownD many low high total), .dat (.int x)])) : WF F_least_over [.dat (knownD many low high total), .dat (.int x)] Q := by
  unfold F_least_over
  rw [w_fn (by rfl)]
  unfold g_least_over knownD
  have h3 := c.lb
  have h4 := c.hb
  have h5 := c.mb
  have c1 : cMul (many : Int) (x - 1) = true := mul_ok (by omega) (by omega)
  unfold knownD leastOver at hQ
  simp only [toDs_map, toDs_ints, allDat_map, allDat_ints, eqv_ints, sh_ints, sh_nil, eqv_nil, sz_0, sz_1, sz_2, sz_3, sz_4, sz_5, sz_6, sz_7, sz_8, sz_9, sz_10, sz_11, sz_12, sz_13, sz_14, sz_15, sz_16, sz_17, sz_18, sz_19, sz_20, sz_21, sz_22, sz_23, sz_24, sz_25, sz_26, sz_27, sz_28, sz_29, sz_30, sz_31, sz_32, sz_33, sz_34, sz_35, sz_36, sz_37, sz_38, sz_39, sz_40, decide_eq_true_eq, Int.reduceLT, Int.reduceLE, Nat.reduceLeDiff, feedT, nd_one, at2_0, at2_1, at3_0, at3_1, at3_2, ix3_1, ix3_2, set3_1, set3_2, ↓VS.w_var, ↓VS.w_mv, ↓VS.w_c, ↓VS.w_2, ↓VS.w_and, ↓VS.w_or, ↓VS.w_not, ↓VS.w_if, ↓VS.w_ch, ↓VS.w_neg, ↓VS.w_fz, ↓VS.w_nil, ↓VS.w_cons, ↓VS.w_amut, ↓VS.w_disp, ↓VS.w_b, ↓VS.w_isi, ↓VS.w_call, ↓VS.w_rev, ↓VS.w_sl, ↓VS.w_mut, ↓VS.w_snil, ↓VS.w_seq, ↓VS.w_set, ↓VS.w_ret, ↓VS.w_expr, ↓VS.w_ifs, ↓VS.w_asg, ↓VS.w_sto, ↓VS.w_for, ↓VS.w_iof, ↓VS.w_rng, ↓VS.w_isx, ↓VS.w_efn, ↓VS.w_try, ↓VS.w_raise, ↓VS.w_m, ↓VS.w_callV, ↓VS.w_comp, ↓VS.w_yes, ↓VS.wO_some, ↓VS.wO_none, ↓VS.wO_map, ↓VS.wO_ite, VS.kMv, VS.k2b, VS.k2, VS.kQ, VS.kAnd, VS.kOr, VS.kNot, VS.kIf, VS.kChc, VS.kChb, VS.kCh, VS.kNeg, VS.frzV, VS.kFz, VS.kConsB, VS.kCons, VS.kMutA, VS.kUn, VS.kDisp, VS.kB, VS.kIsi, VS.kFo, VS.kCall, VS.kRev, VS.kPartB, VS.kPart, VS.kSlc, VS.kSlb, VS.kSl, VS.kMutT, VS.kMutR, VS.kSeq, VS.kSet, VS.kRet, VS.kExpr, VS.kIfS, VS.kAsg, VS.kStoT, VS.kStoI, VS.kSto, VS.kFor, VS.kOf, VS.kRng, VS.kFn, VS.kCompQ, VS.kComp, VS.kIsx, VS.kTry, VS.exName, VS.kM, VS.kMb, VS.kCv, VS.frz, VS.on1, VS.on2, VS.oErr, VS.opSl, VS.opRev, VS.isL, VS.isDc, VS.moAppend, VS.stL, VS.keeps, VS.keep, VS.mkTup, VS.allDat, VS.mkV, VS.pD, VS.pL, VS.pTu, VS.pI, VS.pB, VS.PV.tr, VS.PV.held, VS.toD, VS.toDs, VS.elems, VS.telems, VS.opI, VS.opB, VS.opAdd, VS.opEq, VS.opNe, VS.opIs, VS.opIsNot, VS.isNonT, VS.opIx, VS.subT, VS.datV, VS.ms, VS.noVw, VS.arT, VS.arTs, VS.okM, VS.putM, VS.unM, VS.valsA, VS.argsOut, VS.gNm, VS.gTp, VS.gEach, VS.kidsT, VS.tyT, VS.isTy, VS.bLen, VS.seqN, VS.seqD, VS.bList, VS.bRepr, VS.inR, VS.bSum2, VS.pTi, VS.bIndex, VS.bCount, VS.isLi, VS.opRg, VS.sh_int, VS.sh_bl, VS.sh_str, VS.sh_non, VS.eqv_int, VS.eqv_bl, VS.eqv_str, List.getElem?_cons_zero, List.getElem?_cons_succ, List.length_cons, List.length_nil, List.set_cons_zero, List.set_cons_succ, List.replicate_succ, List.replicate_zero, List.cons_append, List.nil_append, List.map_cons, List.map_nil, Option.map_some, Option.map_none, Option.bind_some, Option.bind_none, if_true, if_false, Bool.true_and, Bool.and_true, Bool.false_and, Bool.and_false, Bool.or_true, Bool.true_or, Bool.false_or, Bool.or_false, List.isEmpty_nil, List.isEmpty_cons, List.nodup_nil, decide_true, Bool.false_eq_true, true_and, and_true, Nat.zero_add, Nat.reduceAdd, Nat.reduceSub, Nat.reduceLT, Option.bind_eq_bind, Option.pure_def]
  refine ite_pr (fun h => by rw [if_pos h] at hQ; exact hQ) fun h => ?_
  rw [if_neg h] at hQ
  refine ite_pr (fun k => by rw [if_pos k] at hQ; exact hQ) fun k => ?_
  rw [if_neg k] at hQ
  have c2 : ∀ y, cDiv y (high - x + 1) = true := fun y => div_ok (by omega) (by omega)
  simp only [c1, c2, bMax2, toDs_map, toDs_ints, allDat_map, allDat_ints, eqv_ints, sh_ints, sh_nil, eqv_nil, sz_0, sz_1, sz_2, sz_3, sz_4, sz_5, sz_6, sz_7, sz_8, sz_9, sz_10, sz_11, sz_12, sz_13, sz_14, sz_15, sz_16, sz_17, sz_18, sz_19, sz_20, sz_21, sz_22, sz_23, sz_24, sz_25, sz_26, sz_27, sz_28, sz_29, sz_30, sz_31, sz_32, sz_33, sz_34, sz_35, sz_36, sz_37, sz_38, sz_39, sz_40, decide_eq_true_eq, Int.reduceLT, Int.reduceLE, Nat.reduceLeDiff, feedT, nd_one, at2_0, at2_1, at3_0, at3_1, at3_2, ix3_1, ix3_2, set3_1, set3_2, ↓VS.w_var, ↓VS.w_mv, ↓VS.w_c, ↓VS.w_2, ↓VS.w_and, ↓VS.w_or, ↓VS.w_not, ↓VS.w_if, ↓VS.w_ch, ↓VS.w_neg, ↓VS.w_fz, ↓VS.w_nil, ↓VS.w_cons, ↓VS.w_amut, ↓VS.w_disp, ↓VS.w_b, ↓VS.w_isi, ↓VS.w_call, ↓VS.w_rev, ↓VS.w_sl, ↓VS.w_mut, ↓VS.w_snil, ↓VS.w_seq, ↓VS.w_set, ↓VS.w_ret, ↓VS.w_expr, ↓VS.w_ifs, ↓VS.w_asg, ↓VS.w_sto, ↓VS.w_for, ↓VS.w_iof, ↓VS.w_rng, ↓VS.w_isx, ↓VS.w_efn, ↓VS.w_try, ↓VS.w_raise, ↓VS.w_m, ↓VS.w_callV, ↓VS.w_comp, ↓VS.w_yes, ↓VS.wO_some, ↓VS.wO_none, ↓VS.wO_map, ↓VS.wO_ite, VS.kMv, VS.k2b, VS.k2, VS.kQ, VS.kAnd, VS.kOr, VS.kNot, VS.kIf, VS.kChc, VS.kChb, VS.kCh, VS.kNeg, VS.frzV, VS.kFz, VS.kConsB, VS.kCons, VS.kMutA, VS.kUn, VS.kDisp, VS.kB, VS.kIsi, VS.kFo, VS.kCall, VS.kRev, VS.kPartB, VS.kPart, VS.kSlc, VS.kSlb, VS.kSl, VS.kMutT, VS.kMutR, VS.kSeq, VS.kSet, VS.kRet, VS.kExpr, VS.kIfS, VS.kAsg, VS.kStoT, VS.kStoI, VS.kSto, VS.kFor, VS.kOf, VS.kRng, VS.kFn, VS.kCompQ, VS.kComp, VS.kIsx, VS.kTry, VS.exName, VS.kM, VS.kMb, VS.kCv, VS.frz, VS.on1, VS.on2, VS.oErr, VS.opSl, VS.opRev, VS.isL, VS.isDc, VS.moAppend, VS.stL, VS.keeps, VS.keep, VS.mkTup, VS.allDat, VS.mkV, VS.pD, VS.pL, VS.pTu, VS.pI, VS.pB, VS.PV.tr, VS.PV.held, VS.toD, VS.toDs, VS.elems, VS.telems, VS.opI, VS.opB, VS.opAdd, VS.opEq, VS.opNe, VS.opIs, VS.opIsNot, VS.isNonT, VS.opIx, VS.subT, VS.datV, VS.ms, VS.noVw, VS.arT, VS.arTs, VS.okM, VS.putM, VS.unM, VS.valsA, VS.argsOut, VS.gNm, VS.gTp, VS.gEach, VS.kidsT, VS.tyT, VS.isTy, VS.bLen, VS.seqN, VS.seqD, VS.bList, VS.bRepr, VS.inR, VS.bSum2, VS.pTi, VS.bIndex, VS.bCount, VS.isLi, VS.opRg, VS.sh_int, VS.sh_bl, VS.sh_str, VS.sh_non, VS.eqv_int, VS.eqv_bl, VS.eqv_str, List.getElem?_cons_zero, List.getElem?_cons_succ, List.length_cons, List.length_nil, List.set_cons_zero, List.set_cons_succ, List.replicate_succ, List.replicate_zero, List.cons_append, List.nil_append, List.map_cons, List.map_nil, Option.map_some, Option.map_none, Option.bind_some, Option.bind_none, if_true, if_false, Bool.true_and, Bool.and_true, Bool.false_and, Bool.and_false, Bool.or_true, Bool.true_or, Bool.false_or, Bool.or_false, List.isEmpty_nil, List.isEmpty_cons, List.nodup_nil, decide_true, Bool.false_eq_true, true_and, and_true, Nat.zero_add, Nat.reduceAdd, Nat.reduceSub, Nat.reduceLT, Option.bind_eq_bind, Option.pure_def]
  rw [max0]
  exact hQ
theorem e_over_bounds {kept : List Int} {many : Nat} {low high : Int} {tot : Option Int} {x : Int} {Q : Fo → Prop} (c : Case kept many low high tot) (hx : -(10 ^ 38) ≤ x ∧ x ≤ 10 ^ 38)
    (hQ : Q (.ret (.dat (.tuple [.int (ov x kept + leastOver many low high (meantT tot many low high false) x), .int (ov x kept + many - leastOver many (0 - high) (0 - low) (0 - meantT tot many low high true) (1 - x))]))
      [.dat (.list (kept.map .int)), .dat (.int many), .dat (.int low), .dat (.int high), .dat (oD tot), .dat (.int x)])) :
    WF F_over_bounds [.dat (.list (kept.map .int)), .dat (.int many), .dat (.int low), .dat (.int high), .dat (oD tot), .dat (.int x)] Q := by
  unfold F_over_bounds
  rw [w_fn (by rfl)]
  unfold g_over_bounds
  have hs : kept.length ≤ sizeLine := sz_of (by have := c.kl; omega)
  simp only [wipeE, calmT, List.getD_cons_zero, List.getD_cons_succ, List.all_cons, List.all_nil, List.length_map, hs, toDs_map, toDs_ints, allDat_map, allDat_ints, eqv_ints, sh_ints, sh_nil, eqv_nil, sz_0, sz_1, sz_2, sz_3, sz_4, sz_5, sz_6, sz_7, sz_8, sz_9, sz_10, sz_11, sz_12, sz_13, sz_14, sz_15, sz_16, sz_17, sz_18, sz_19, sz_20, sz_21, sz_22, sz_23, sz_24, sz_25, sz_26, sz_27, sz_28, sz_29, sz_30, sz_31, sz_32, sz_33, sz_34, sz_35, sz_36, sz_37, sz_38, sz_39, sz_40, decide_eq_true_eq, Int.reduceLT, Int.reduceLE, Nat.reduceLeDiff, feedT, nd_one, at2_0, at2_1, at3_0, at3_1, at3_2, ix3_1, ix3_2, set3_1, set3_2, ↓VS.w_var, ↓VS.w_mv, ↓VS.w_c, ↓VS.w_2, ↓VS.w_and, ↓VS.w_or, ↓VS.w_not, ↓VS.w_if, ↓VS.w_ch, ↓VS.w_neg, ↓VS.w_fz, ↓VS.w_nil, ↓VS.w_cons, ↓VS.w_amut, ↓VS.w_disp, ↓VS.w_b, ↓VS.w_isi, ↓VS.w_call, ↓VS.w_rev, ↓VS.w_sl, ↓VS.w_mut, ↓VS.w_snil, ↓VS.w_seq, ↓VS.w_set, ↓VS.w_ret, ↓VS.w_expr, ↓VS.w_asg, ↓VS.w_sto, ↓VS.w_for, ↓VS.w_iof, ↓VS.w_rng, ↓VS.w_isx, ↓VS.w_efn, ↓VS.w_try, ↓VS.w_raise, ↓VS.w_m, ↓VS.w_callV, ↓VS.w_comp, ↓VS.w_yes, ↓VS.wO_some, ↓VS.wO_none, ↓VS.wO_map, ↓VS.wO_ite, VS.kMv, VS.k2b, VS.k2, VS.kQ, VS.kAnd, VS.kOr, VS.kNot, VS.kIf, VS.kChc, VS.kChb, VS.kCh, VS.kNeg, VS.frzV, VS.kFz, VS.kConsB, VS.kCons, VS.kMutA, VS.kUn, VS.kDisp, VS.kB, VS.kIsi, VS.kFo, VS.kCall, VS.kRev, VS.kPartB, VS.kPart, VS.kSlc, VS.kSlb, VS.kSl, VS.kMutT, VS.kMutR, VS.kSeq, VS.kSet, VS.kRet, VS.kExpr, VS.kIfS, VS.kAsg, VS.kStoT, VS.kStoI, VS.kSto, VS.kFor, VS.kOf, VS.kRng, VS.kFn, VS.kCompQ, VS.kComp, VS.kIsx, VS.kTry, VS.exName, VS.kM, VS.kMb, VS.kCv, VS.frz, VS.on1, VS.on2, VS.oErr, VS.opSl, VS.opRev, VS.isL, VS.isDc, VS.moAppend, VS.stL, VS.keeps, VS.keep, VS.mkTup, VS.allDat, VS.mkV, VS.pD, VS.pL, VS.pTu, VS.pI, VS.pB, VS.PV.tr, VS.PV.held, VS.toD, VS.toDs, VS.elems, VS.telems, VS.opI, VS.opB, VS.opAdd, VS.opEq, VS.opNe, VS.opIs, VS.opIsNot, VS.isNonT, VS.opIx, VS.subT, VS.datV, VS.ms, VS.noVw, VS.arT, VS.arTs, VS.okM, VS.putM, VS.unM, VS.valsA, VS.argsOut, VS.gNm, VS.gTp, VS.gEach, VS.kidsT, VS.tyT, VS.isTy, VS.bLen, VS.seqN, VS.seqD, VS.bList, VS.bRepr, VS.inR, VS.bSum2, VS.pTi, VS.bIndex, VS.bCount, VS.isLi, VS.opRg, VS.sh_int, VS.sh_bl, VS.sh_str, VS.sh_non, VS.eqv_int, VS.eqv_bl, VS.eqv_str, List.getElem?_cons_zero, List.getElem?_cons_succ, List.length_cons, List.length_nil, List.set_cons_zero, List.set_cons_succ, List.replicate_succ, List.replicate_zero, List.cons_append, List.nil_append, List.map_cons, List.map_nil, Option.map_some, Option.map_none, Option.bind_some, Option.bind_none, if_true, if_false, Bool.true_and, Bool.and_true, Bool.false_and, Bool.and_false, Bool.or_true, Bool.true_or, Bool.false_or, Bool.or_false, List.isEmpty_nil, List.isEmpty_cons, List.nodup_nil, decide_true, Bool.false_eq_true, true_and, and_true, Nat.zero_add, Nat.reduceAdd, Nat.reduceSub, Nat.reduceLT, Option.bind_eq_bind, Option.pure_def]
  refine wc_ints (fun v => decide (x ≤ v)) (fun v => v) rfl (fun n hn => ⟨_, rfl, rfl, ?_, fun _ => ?_⟩) ?_
  · simp only [toDs_map, toDs_ints, allDat_map, allDat_ints, eqv_ints, sh_ints, sh_nil, eqv_nil, sz_0, sz_1, sz_2, sz_3, sz_4, sz_5, sz_6, sz_7, sz_8, sz_9, sz_10, sz_11, sz_12, sz_13, sz_14, sz_15, sz_16, sz_17, sz_18, sz_19, sz_20, sz_21, sz_22, sz_23, sz_24, sz_25, sz_26, sz_27, sz_28, sz_29, sz_30, sz_31, sz_32, sz_33, sz_34, sz_35, sz_36, sz_37, sz_38, sz_39, sz_40, decide_eq_true_eq, Int.reduceLT, Int.reduceLE, Nat.reduceLeDiff, feedT, nd_one, at2_0, at2_1, at3_0, at3_1, at3_2, ix3_1, ix3_2, set3_1, set3_2, ↓VS.w_var, ↓VS.w_mv, ↓VS.w_c, ↓VS.w_2, ↓VS.w_and, ↓VS.w_or, ↓VS.w_not, ↓VS.w_if, ↓VS.w_ch, ↓VS.w_neg, ↓VS.w_fz, ↓VS.w_nil, ↓VS.w_cons, ↓VS.w_amut, ↓VS.w_disp, ↓VS.w_b, ↓VS.w_isi, ↓VS.w_call, ↓VS.w_rev, ↓VS.w_sl, ↓VS.w_mut, ↓VS.w_snil, ↓VS.w_seq, ↓VS.w_set, ↓VS.w_ret, ↓VS.w_expr, ↓VS.w_ifs, ↓VS.w_asg, ↓VS.w_sto, ↓VS.w_for, ↓VS.w_iof, ↓VS.w_rng, ↓VS.w_isx, ↓VS.w_efn, ↓VS.w_try, ↓VS.w_raise, ↓VS.w_m, ↓VS.w_callV, ↓VS.w_comp, ↓VS.w_yes, ↓VS.wO_some, ↓VS.wO_none, ↓VS.wO_map, ↓VS.wO_ite, VS.kMv, VS.k2b, VS.k2, VS.kQ, VS.kAnd, VS.kOr, VS.kNot, VS.kIf, VS.kChc, VS.kChb, VS.kCh, VS.kNeg, VS.frzV, VS.kFz, VS.kConsB, VS.kCons, VS.kMutA, VS.kUn, VS.kDisp, VS.kB, VS.kIsi, VS.kFo, VS.kCall, VS.kRev, VS.kPartB, VS.kPart, VS.kSlc, VS.kSlb, VS.kSl, VS.kMutT, VS.kMutR, VS.kSeq, VS.kSet, VS.kRet, VS.kExpr, VS.kIfS, VS.kAsg, VS.kStoT, VS.kStoI, VS.kSto, VS.kFor, VS.kOf, VS.kRng, VS.kFn, VS.kCompQ, VS.kComp, VS.kIsx, VS.kTry, VS.exName, VS.kM, VS.kMb, VS.kCv, VS.frz, VS.on1, VS.on2, VS.oErr, VS.opSl, VS.opRev, VS.isL, VS.isDc, VS.moAppend, VS.stL, VS.keeps, VS.keep, VS.mkTup, VS.allDat, VS.mkV, VS.pD, VS.pL, VS.pTu, VS.pI, VS.pB, VS.PV.tr, VS.PV.held, VS.toD, VS.toDs, VS.elems, VS.telems, VS.opI, VS.opB, VS.opAdd, VS.opEq, VS.opNe, VS.opIs, VS.opIsNot, VS.isNonT, VS.opIx, VS.subT, VS.datV, VS.ms, VS.noVw, VS.arT, VS.arTs, VS.okM, VS.putM, VS.unM, VS.valsA, VS.argsOut, VS.gNm, VS.gTp, VS.gEach, VS.kidsT, VS.tyT, VS.isTy, VS.bLen, VS.seqN, VS.seqD, VS.bList, VS.bRepr, VS.inR, VS.bSum2, VS.pTi, VS.bIndex, VS.bCount, VS.isLi, VS.opRg, VS.sh_int, VS.sh_bl, VS.sh_str, VS.sh_non, VS.eqv_int, VS.eqv_bl, VS.eqv_str, List.getElem?_cons_zero, List.getElem?_cons_succ, List.length_cons, List.length_nil, List.set_cons_zero, List.set_cons_succ, List.replicate_succ, List.replicate_zero, List.cons_append, List.nil_append, List.map_cons, List.map_nil, Option.map_some, Option.map_none, Option.bind_some, Option.bind_none, if_true, if_false, Bool.true_and, Bool.and_true, Bool.false_and, Bool.and_false, Bool.or_true, Bool.true_or, Bool.false_or, Bool.or_false, List.isEmpty_nil, List.isEmpty_cons, List.nodup_nil, decide_true, Bool.false_eq_true, true_and, and_true, Nat.zero_add, Nat.reduceAdd, Nat.reduceSub, Nat.reduceLT, Option.bind_eq_bind, Option.pure_def]; exact ⟨_, rfl, rfl⟩
  · simp only [toDs_map, toDs_ints, allDat_map, allDat_ints, eqv_ints, sh_ints, sh_nil, eqv_nil, sz_0, sz_1, sz_2, sz_3, sz_4, sz_5, sz_6, sz_7, sz_8, sz_9, sz_10, sz_11, sz_12, sz_13, sz_14, sz_15, sz_16, sz_17, sz_18, sz_19, sz_20, sz_21, sz_22, sz_23, sz_24, sz_25, sz_26, sz_27, sz_28, sz_29, sz_30, sz_31, sz_32, sz_33, sz_34, sz_35, sz_36, sz_37, sz_38, sz_39, sz_40, decide_eq_true_eq, Int.reduceLT, Int.reduceLE, Nat.reduceLeDiff, feedT, nd_one, at2_0, at2_1, at3_0, at3_1, at3_2, ix3_1, ix3_2, set3_1, set3_2, ↓VS.w_var, ↓VS.w_mv, ↓VS.w_c, ↓VS.w_2, ↓VS.w_and, ↓VS.w_or, ↓VS.w_not, ↓VS.w_if, ↓VS.w_ch, ↓VS.w_neg, ↓VS.w_fz, ↓VS.w_nil, ↓VS.w_cons, ↓VS.w_amut, ↓VS.w_disp, ↓VS.w_b, ↓VS.w_isi, ↓VS.w_call, ↓VS.w_rev, ↓VS.w_sl, ↓VS.w_mut, ↓VS.w_snil, ↓VS.w_seq, ↓VS.w_set, ↓VS.w_ret, ↓VS.w_expr, ↓VS.w_ifs, ↓VS.w_asg, ↓VS.w_sto, ↓VS.w_for, ↓VS.w_iof, ↓VS.w_rng, ↓VS.w_isx, ↓VS.w_efn, ↓VS.w_try, ↓VS.w_raise, ↓VS.w_m, ↓VS.w_callV, ↓VS.w_comp, ↓VS.w_yes, ↓VS.wO_some, ↓VS.wO_none, ↓VS.wO_map, ↓VS.wO_ite, VS.kMv, VS.k2b, VS.k2, VS.kQ, VS.kAnd, VS.kOr, VS.kNot, VS.kIf, VS.kChc, VS.kChb, VS.kCh, VS.kNeg, VS.frzV, VS.kFz, VS.kConsB, VS.kCons, VS.kMutA, VS.kUn, VS.kDisp, VS.kB, VS.kIsi, VS.kFo, VS.kCall, VS.kRev, VS.kPartB, VS.kPart, VS.kSlc, VS.kSlb, VS.kSl, VS.kMutT, VS.kMutR, VS.kSeq, VS.kSet, VS.kRet, VS.kExpr, VS.kIfS, VS.kAsg, VS.kStoT, VS.kStoI, VS.kSto, VS.kFor, VS.kOf, VS.kRng, VS.kFn, VS.kCompQ, VS.kComp, VS.kIsx, VS.kTry, VS.exName, VS.kM, VS.kMb, VS.kCv, VS.frz, VS.on1, VS.on2, VS.oErr, VS.opSl, VS.opRev, VS.isL, VS.isDc, VS.moAppend, VS.stL, VS.keeps, VS.keep, VS.mkTup, VS.allDat, VS.mkV, VS.pD, VS.pL, VS.pTu, VS.pI, VS.pB, VS.PV.tr, VS.PV.held, VS.toD, VS.toDs, VS.elems, VS.telems, VS.opI, VS.opB, VS.opAdd, VS.opEq, VS.opNe, VS.opIs, VS.opIsNot, VS.isNonT, VS.opIx, VS.subT, VS.datV, VS.ms, VS.noVw, VS.arT, VS.arTs, VS.okM, VS.putM, VS.unM, VS.valsA, VS.argsOut, VS.gNm, VS.gTp, VS.gEach, VS.kidsT, VS.tyT, VS.isTy, VS.bLen, VS.seqN, VS.seqD, VS.bList, VS.bRepr, VS.inR, VS.bSum2, VS.pTi, VS.bIndex, VS.bCount, VS.isLi, VS.opRg, VS.sh_int, VS.sh_bl, VS.sh_str, VS.sh_non, VS.eqv_int, VS.eqv_bl, VS.eqv_str, List.getElem?_cons_zero, List.getElem?_cons_succ, List.length_cons, List.length_nil, List.set_cons_zero, List.set_cons_succ, List.replicate_succ, List.replicate_zero, List.cons_append, List.nil_append, List.map_cons, List.map_nil, Option.map_some, Option.map_none, Option.bind_some, Option.bind_none, if_true, if_false, Bool.true_and, Bool.and_true, Bool.false_and, Bool.and_false, Bool.or_true, Bool.true_or, Bool.false_or, Bool.or_false, List.isEmpty_nil, List.isEmpty_cons, List.nodup_nil, decide_true, Bool.false_eq_true, true_and, and_true, Nat.zero_add, Nat.reduceAdd, Nat.reduceSub, Nat.reduceLT, Option.bind_eq_bind, Option.pure_def]; exact ⟨_, rfl, rfl⟩
  have eo : (kept.filter fun v => decide (x ≤ v)).length = ov x kept := by
    rw [ov, List.countP_eq_length_filter]
  simp only [kCompQ, List.nil_append, List.length_map, eo, toDs_map, toDs_ints, allDat_map, allDat_ints, eqv_ints, sh_ints, sh_nil, eqv_nil, sz_0, sz_1, sz_2, sz_3, sz_4, sz_5, sz_6, sz_7, sz_8, sz_9, sz_10, sz_11, sz_12, sz_13, sz_14, sz_15, sz_16, sz_17, sz_18, sz_19, sz_20, sz_21, sz_22, sz_23, sz_24, sz_25, sz_26, sz_27, sz_28, sz_29, sz_30, sz_31, sz_32, sz_33, sz_34, sz_35, sz_36, sz_37, sz_38, sz_39, sz_40, decide_eq_true_eq, Int.reduceLT, Int.reduceLE, Nat.reduceLeDiff, feedT, nd_one, at2_0, at2_1, at3_0, at3_1, at3_2, ix3_1, ix3_2, set3_1, set3_2, ↓VS.w_var, ↓VS.w_mv, ↓VS.w_c, ↓VS.w_2, ↓VS.w_and, ↓VS.w_or, ↓VS.w_not, ↓VS.w_if, ↓VS.w_ch, ↓VS.w_neg, ↓VS.w_fz, ↓VS.w_nil, ↓VS.w_cons, ↓VS.w_amut, ↓VS.w_disp, ↓VS.w_b, ↓VS.w_isi, ↓VS.w_call, ↓VS.w_rev, ↓VS.w_sl, ↓VS.w_mut, ↓VS.w_snil, ↓VS.w_seq, ↓VS.w_set, ↓VS.w_ret, ↓VS.w_expr, ↓VS.w_asg, ↓VS.w_sto, ↓VS.w_for, ↓VS.w_iof, ↓VS.w_rng, ↓VS.w_isx, ↓VS.w_efn, ↓VS.w_try, ↓VS.w_raise, ↓VS.w_m, ↓VS.w_callV, ↓VS.w_comp, ↓VS.w_yes, ↓VS.wO_some, ↓VS.wO_none, ↓VS.wO_map, ↓VS.wO_ite, VS.kMv, VS.k2b, VS.k2, VS.kQ, VS.kAnd, VS.kOr, VS.kNot, VS.kIf, VS.kChc, VS.kChb, VS.kCh, VS.kNeg, VS.frzV, VS.kFz, VS.kConsB, VS.kCons, VS.kMutA, VS.kUn, VS.kDisp, VS.kB, VS.kIsi, VS.kFo, VS.kCall, VS.kRev, VS.kPartB, VS.kPart, VS.kSlc, VS.kSlb, VS.kSl, VS.kMutT, VS.kMutR, VS.kSeq, VS.kSet, VS.kRet, VS.kExpr, VS.kIfS, VS.kAsg, VS.kStoT, VS.kStoI, VS.kSto, VS.kFor, VS.kOf, VS.kRng, VS.kFn, VS.kCompQ, VS.kComp, VS.kIsx, VS.kTry, VS.exName, VS.kM, VS.kMb, VS.kCv, VS.frz, VS.on1, VS.on2, VS.oErr, VS.opSl, VS.opRev, VS.isL, VS.isDc, VS.moAppend, VS.stL, VS.keeps, VS.keep, VS.mkTup, VS.allDat, VS.mkV, VS.pD, VS.pL, VS.pTu, VS.pI, VS.pB, VS.PV.tr, VS.PV.held, VS.toD, VS.toDs, VS.elems, VS.telems, VS.opI, VS.opB, VS.opAdd, VS.opEq, VS.opNe, VS.opIs, VS.opIsNot, VS.isNonT, VS.opIx, VS.subT, VS.datV, VS.ms, VS.noVw, VS.arT, VS.arTs, VS.okM, VS.putM, VS.unM, VS.valsA, VS.argsOut, VS.gNm, VS.gTp, VS.gEach, VS.kidsT, VS.tyT, VS.isTy, VS.bLen, VS.seqN, VS.seqD, VS.bList, VS.bRepr, VS.inR, VS.bSum2, VS.pTi, VS.bIndex, VS.bCount, VS.isLi, VS.opRg, VS.sh_int, VS.sh_bl, VS.sh_str, VS.sh_non, VS.eqv_int, VS.eqv_bl, VS.eqv_str, List.getElem?_cons_zero, List.getElem?_cons_succ, List.length_cons, List.length_nil, List.set_cons_zero, List.set_cons_succ, List.replicate_succ, List.replicate_zero, List.cons_append, List.nil_append, List.map_cons, List.map_nil, Option.map_some, Option.map_none, Option.bind_some, Option.bind_none, if_true, if_false, Bool.true_and, Bool.and_true, Bool.false_and, Bool.and_false, Bool.or_true, Bool.true_or, Bool.false_or, Bool.or_false, List.isEmpty_nil, List.isEmpty_cons, List.nodup_nil, decide_true, Bool.false_eq_true, true_and, and_true, Nat.zero_add, Nat.reduceAdd, Nat.reduceSub, Nat.reduceLT, Option.bind_eq_bind, Option.pure_def]
  refine e_meant c ?_
  simp only [knownD, toDs_map, toDs_ints, allDat_map, allDat_ints, eqv_ints, sh_ints, sh_nil, eqv_nil, sz_0, sz_1, sz_2, sz_3, sz_4, sz_5, sz_6, sz_7, sz_8, sz_9, sz_10, sz_11, sz_12, sz_13, sz_14, sz_15, sz_16, sz_17, sz_18, sz_19, sz_20, sz_21, sz_22, sz_23, sz_24, sz_25, sz_26, sz_27, sz_28, sz_29, sz_30, sz_31, sz_32, sz_33, sz_34, sz_35, sz_36, sz_37, sz_38, sz_39, sz_40, decide_eq_true_eq, Int.reduceLT, Int.reduceLE, Nat.reduceLeDiff, feedT, nd_one, at2_0, at2_1, at3_0, at3_1, at3_2, ix3_1, ix3_2, set3_1, set3_2, ↓VS.w_var, ↓VS.w_mv, ↓VS.w_c, ↓VS.w_2, ↓VS.w_and, ↓VS.w_or, ↓VS.w_not, ↓VS.w_if, ↓VS.w_ch, ↓VS.w_neg, ↓VS.w_fz, ↓VS.w_nil, ↓VS.w_cons, ↓VS.w_amut, ↓VS.w_disp, ↓VS.w_b, ↓VS.w_isi, ↓VS.w_call, ↓VS.w_rev, ↓VS.w_sl, ↓VS.w_mut, ↓VS.w_snil, ↓VS.w_seq, ↓VS.w_set, ↓VS.w_ret, ↓VS.w_expr, ↓VS.w_asg, ↓VS.w_sto, ↓VS.w_for, ↓VS.w_iof, ↓VS.w_rng, ↓VS.w_isx, ↓VS.w_efn, ↓VS.w_try, ↓VS.w_raise, ↓VS.w_m, ↓VS.w_callV, ↓VS.w_comp, ↓VS.w_yes, ↓VS.wO_some, ↓VS.wO_none, ↓VS.wO_map, ↓VS.wO_ite, VS.kMv, VS.k2b, VS.k2, VS.kQ, VS.kAnd, VS.kOr, VS.kNot, VS.kIf, VS.kChc, VS.kChb, VS.kCh, VS.kNeg, VS.frzV, VS.kFz, VS.kConsB, VS.kCons, VS.kMutA, VS.kUn, VS.kDisp, VS.kB, VS.kIsi, VS.kFo, VS.kCall, VS.kRev, VS.kPartB, VS.kPart, VS.kSlc, VS.kSlb, VS.kSl, VS.kMutT, VS.kMutR, VS.kSeq, VS.kSet, VS.kRet, VS.kExpr, VS.kIfS, VS.kAsg, VS.kStoT, VS.kStoI, VS.kSto, VS.kFor, VS.kOf, VS.kRng, VS.kFn, VS.kCompQ, VS.kComp, VS.kIsx, VS.kTry, VS.exName, VS.kM, VS.kMb, VS.kCv, VS.frz, VS.on1, VS.on2, VS.oErr, VS.opSl, VS.opRev, VS.isL, VS.isDc, VS.moAppend, VS.stL, VS.keeps, VS.keep, VS.mkTup, VS.allDat, VS.mkV, VS.pD, VS.pL, VS.pTu, VS.pI, VS.pB, VS.PV.tr, VS.PV.held, VS.toD, VS.toDs, VS.elems, VS.telems, VS.opI, VS.opB, VS.opAdd, VS.opEq, VS.opNe, VS.opIs, VS.opIsNot, VS.isNonT, VS.opIx, VS.subT, VS.datV, VS.ms, VS.noVw, VS.arT, VS.arTs, VS.okM, VS.putM, VS.unM, VS.valsA, VS.argsOut, VS.gNm, VS.gTp, VS.gEach, VS.kidsT, VS.tyT, VS.isTy, VS.bLen, VS.seqN, VS.seqD, VS.bList, VS.bRepr, VS.inR, VS.bSum2, VS.pTi, VS.bIndex, VS.bCount, VS.isLi, VS.opRg, VS.sh_int, VS.sh_bl, VS.sh_str, VS.sh_non, VS.eqv_int, VS.eqv_bl, VS.eqv_str, List.getElem?_cons_zero, List.getElem?_cons_succ, List.length_cons, List.length_nil, List.set_cons_zero, List.set_cons_succ, List.replicate_succ, List.replicate_zero, List.cons_append, List.nil_append, List.map_cons, List.map_nil, Option.map_some, Option.map_none, Option.bind_some, Option.bind_none, if_true, if_false, Bool.true_and, Bool.and_true, Bool.false_and, Bool.and_false, Bool.or_true, Bool.true_or, Bool.false_or, Bool.or_false, List.isEmpty_nil, List.isEmpty_cons, List.nodup_nil, decide_true, Bool.false_eq_true, true_and, and_true, Nat.zero_add, Nat.reduceAdd, Nat.reduceSub, Nat.reduceLT, Option.bind_eq_bind, Option.pure_def]
  refine e_least_over (c.kc false) (by omega) ?_
  simp only [knownD, toDs_map, toDs_ints, allDat_map, allDat_ints, eqv_ints, sh_ints, sh_nil, eqv_nil, sz_0, sz_1, sz_2, sz_3, sz_4, sz_5, sz_6, sz_7, sz_8, sz_9, sz_10, sz_11, sz_12, sz_13, sz_14, sz_15, sz_16, sz_17, sz_18, sz_19, sz_20, sz_21, sz_22, sz_23, sz_24, sz_25, sz_26, sz_27, sz_28, sz_29, sz_30, sz_31, sz_32, sz_33, sz_34, sz_35, sz_36, sz_37, sz_38, sz_39, sz_40, decide_eq_true_eq, Int.reduceLT, Int.reduceLE, Nat.reduceLeDiff, feedT, nd_one, at2_0, at2_1, at3_0, at3_1, at3_2, ix3_1, ix3_2, set3_1, set3_2, ↓VS.w_var, ↓VS.w_mv, ↓VS.w_c, ↓VS.w_2, ↓VS.w_and, ↓VS.w_or, ↓VS.w_not, ↓VS.w_if, ↓VS.w_ch, ↓VS.w_neg, ↓VS.w_fz, ↓VS.w_nil, ↓VS.w_cons, ↓VS.w_amut, ↓VS.w_disp, ↓VS.w_b, ↓VS.w_isi, ↓VS.w_call, ↓VS.w_rev, ↓VS.w_sl, ↓VS.w_mut, ↓VS.w_snil, ↓VS.w_seq, ↓VS.w_set, ↓VS.w_ret, ↓VS.w_expr, ↓VS.w_asg, ↓VS.w_sto, ↓VS.w_for, ↓VS.w_iof, ↓VS.w_rng, ↓VS.w_isx, ↓VS.w_efn, ↓VS.w_try, ↓VS.w_raise, ↓VS.w_m, ↓VS.w_callV, ↓VS.w_comp, ↓VS.w_yes, ↓VS.wO_some, ↓VS.wO_none, ↓VS.wO_map, ↓VS.wO_ite, VS.kMv, VS.k2b, VS.k2, VS.kQ, VS.kAnd, VS.kOr, VS.kNot, VS.kIf, VS.kChc, VS.kChb, VS.kCh, VS.kNeg, VS.frzV, VS.kFz, VS.kConsB, VS.kCons, VS.kMutA, VS.kUn, VS.kDisp, VS.kB, VS.kIsi, VS.kFo, VS.kCall, VS.kRev, VS.kPartB, VS.kPart, VS.kSlc, VS.kSlb, VS.kSl, VS.kMutT, VS.kMutR, VS.kSeq, VS.kSet, VS.kRet, VS.kExpr, VS.kIfS, VS.kAsg, VS.kStoT, VS.kStoI, VS.kSto, VS.kFor, VS.kOf, VS.kRng, VS.kFn, VS.kCompQ, VS.kComp, VS.kIsx, VS.kTry, VS.exName, VS.kM, VS.kMb, VS.kCv, VS.frz, VS.on1, VS.on2, VS.oErr, VS.opSl, VS.opRev, VS.isL, VS.isDc, VS.moAppend, VS.stL, VS.keeps, VS.keep, VS.mkTup, VS.allDat, VS.mkV, VS.pD, VS.pL, VS.pTu, VS.pI, VS.pB, VS.PV.tr, VS.PV.held, VS.toD, VS.toDs, VS.elems, VS.telems, VS.opI, VS.opB, VS.opAdd, VS.opEq, VS.opNe, VS.opIs, VS.opIsNot, VS.isNonT, VS.opIx, VS.subT, VS.datV, VS.ms, VS.noVw, VS.arT, VS.arTs, VS.okM, VS.putM, VS.unM, VS.valsA, VS.argsOut, VS.gNm, VS.gTp, VS.gEach, VS.kidsT, VS.tyT, VS.isTy, VS.bLen, VS.seqN, VS.seqD, VS.bList, VS.bRepr, VS.inR, VS.bSum2, VS.pTi, VS.bIndex, VS.bCount, VS.isLi, VS.opRg, VS.sh_int, VS.sh_bl, VS.sh_str, VS.sh_non, VS.eqv_int, VS.eqv_bl, VS.eqv_str, List.getElem?_cons_zero, List.getElem?_cons_succ, List.length_cons, List.length_nil, List.set_cons_zero, List.set_cons_succ, List.replicate_succ, List.replicate_zero, List.cons_append, List.nil_append, List.map_cons, List.map_nil, Option.map_some, Option.map_none, Option.bind_some, Option.bind_none, if_true, if_false, Bool.true_and, Bool.and_true, Bool.false_and, Bool.and_false, Bool.or_true, Bool.true_or, Bool.false_or, Bool.or_false, List.isEmpty_nil, List.isEmpty_cons, List.nodup_nil, decide_true, Bool.false_eq_true, true_and, and_true, Nat.zero_add, Nat.reduceAdd, Nat.reduceSub, Nat.reduceLT, Option.bind_eq_bind, Option.pure_def]
  refine e_meant c ?_
  simp only [knownD, toDs_map, toDs_ints, allDat_map, allDat_ints, eqv_ints, sh_ints, sh_nil, eqv_nil, sz_0, sz_1, sz_2, sz_3, sz_4, sz_5, sz_6, sz_7, sz_8, sz_9, sz_10, sz_11, sz_12, sz_13, sz_14, sz_15, sz_16, sz_17, sz_18, sz_19, sz_20, sz_21, sz_22, sz_23, sz_24, sz_25, sz_26, sz_27, sz_28, sz_29, sz_30, sz_31, sz_32, sz_33, sz_34, sz_35, sz_36, sz_37, sz_38, sz_39, sz_40, decide_eq_true_eq, Int.reduceLT, Int.reduceLE, Nat.reduceLeDiff, feedT, nd_one, at2_0, at2_1, at3_0, at3_1, at3_2, ix3_1, ix3_2, set3_1, set3_2, ↓VS.w_var, ↓VS.w_mv, ↓VS.w_c, ↓VS.w_2, ↓VS.w_and, ↓VS.w_or, ↓VS.w_not, ↓VS.w_if, ↓VS.w_ch, ↓VS.w_neg, ↓VS.w_fz, ↓VS.w_nil, ↓VS.w_cons, ↓VS.w_amut, ↓VS.w_disp, ↓VS.w_b, ↓VS.w_isi, ↓VS.w_call, ↓VS.w_rev, ↓VS.w_sl, ↓VS.w_mut, ↓VS.w_snil, ↓VS.w_seq, ↓VS.w_set, ↓VS.w_ret, ↓VS.w_expr, ↓VS.w_asg, ↓VS.w_sto, ↓VS.w_for, ↓VS.w_iof, ↓VS.w_rng, ↓VS.w_isx, ↓VS.w_efn, ↓VS.w_try, ↓VS.w_raise, ↓VS.w_m, ↓VS.w_callV, ↓VS.w_comp, ↓VS.w_yes, ↓VS.wO_some, ↓VS.wO_none, ↓VS.wO_map, ↓VS.wO_ite, VS.kMv, VS.k2b, VS.k2, VS.kQ, VS.kAnd, VS.kOr, VS.kNot, VS.kIf, VS.kChc, VS.kChb, VS.kCh, VS.kNeg, VS.frzV, VS.kFz, VS.kConsB, VS.kCons, VS.kMutA, VS.kUn, VS.kDisp, VS.kB, VS.kIsi, VS.kFo, VS.kCall, VS.kRev, VS.kPartB, VS.kPart, VS.kSlc, VS.kSlb, VS.kSl, VS.kMutT, VS.kMutR, VS.kSeq, VS.kSet, VS.kRet, VS.kExpr, VS.kIfS, VS.kAsg, VS.kStoT, VS.kStoI, VS.kSto, VS.kFor, VS.kOf, VS.kRng, VS.kFn, VS.kCompQ, VS.kComp, VS.kIsx, VS.kTry, VS.exName, VS.kM, VS.kMb, VS.kCv, VS.frz, VS.on1, VS.on2, VS.oErr, VS.opSl, VS.opRev, VS.isL, VS.isDc, VS.moAppend, VS.stL, VS.keeps, VS.keep, VS.mkTup, VS.allDat, VS.mkV, VS.pD, VS.pL, VS.pTu, VS.pI, VS.pB, VS.PV.tr, VS.PV.held, VS.toD, VS.toDs, VS.elems, VS.telems, VS.opI, VS.opB, VS.opAdd, VS.opEq, VS.opNe, VS.opIs, VS.opIsNot, VS.isNonT, VS.opIx, VS.subT, VS.datV, VS.ms, VS.noVw, VS.arT, VS.arTs, VS.okM, VS.putM, VS.unM, VS.valsA, VS.argsOut, VS.gNm, VS.gTp, VS.gEach, VS.kidsT, VS.tyT, VS.isTy, VS.bLen, VS.seqN, VS.seqD, VS.bList, VS.bRepr, VS.inR, VS.bSum2, VS.pTi, VS.bIndex, VS.bCount, VS.isLi, VS.opRg, VS.sh_int, VS.sh_bl, VS.sh_str, VS.sh_non, VS.eqv_int, VS.eqv_bl, VS.eqv_str, List.getElem?_cons_zero, List.getElem?_cons_succ, List.length_cons, List.length_nil, List.set_cons_zero, List.set_cons_succ, List.replicate_succ, List.replicate_zero, List.cons_append, List.nil_append, List.map_cons, List.map_nil, Option.map_some, Option.map_none, Option.bind_some, Option.bind_none, if_true, if_false, Bool.true_and, Bool.and_true, Bool.false_and, Bool.and_false, Bool.or_true, Bool.true_or, Bool.false_or, Bool.or_false, List.isEmpty_nil, List.isEmpty_cons, List.nodup_nil, decide_true, Bool.false_eq_true, true_and, and_true, Nat.zero_add, Nat.reduceAdd, Nat.reduceSub, Nat.reduceLT, Option.bind_eq_bind, Option.pure_def]
  refine e_about (kept := []) (by decide) ?_
  simp only [knownD, toDs_map, toDs_ints, allDat_map, allDat_ints, eqv_ints, sh_ints, sh_nil, eqv_nil, sz_0, sz_1, sz_2, sz_3, sz_4, sz_5, sz_6, sz_7, sz_8, sz_9, sz_10, sz_11, sz_12, sz_13, sz_14, sz_15, sz_16, sz_17, sz_18, sz_19, sz_20, sz_21, sz_22, sz_23, sz_24, sz_25, sz_26, sz_27, sz_28, sz_29, sz_30, sz_31, sz_32, sz_33, sz_34, sz_35, sz_36, sz_37, sz_38, sz_39, sz_40, decide_eq_true_eq, Int.reduceLT, Int.reduceLE, Nat.reduceLeDiff, feedT, nd_one, at2_0, at2_1, at3_0, at3_1, at3_2, ix3_1, ix3_2, set3_1, set3_2, ↓VS.w_var, ↓VS.w_mv, ↓VS.w_c, ↓VS.w_2, ↓VS.w_and, ↓VS.w_or, ↓VS.w_not, ↓VS.w_if, ↓VS.w_ch, ↓VS.w_neg, ↓VS.w_fz, ↓VS.w_nil, ↓VS.w_cons, ↓VS.w_amut, ↓VS.w_disp, ↓VS.w_b, ↓VS.w_isi, ↓VS.w_call, ↓VS.w_rev, ↓VS.w_sl, ↓VS.w_mut, ↓VS.w_snil, ↓VS.w_seq, ↓VS.w_set, ↓VS.w_ret, ↓VS.w_expr, ↓VS.w_asg, ↓VS.w_sto, ↓VS.w_for, ↓VS.w_iof, ↓VS.w_rng, ↓VS.w_isx, ↓VS.w_efn, ↓VS.w_try, ↓VS.w_raise, ↓VS.w_m, ↓VS.w_callV, ↓VS.w_comp, ↓VS.w_yes, ↓VS.wO_some, ↓VS.wO_none, ↓VS.wO_map, ↓VS.wO_ite, VS.kMv, VS.k2b, VS.k2, VS.kQ, VS.kAnd, VS.kOr, VS.kNot, VS.kIf, VS.kChc, VS.kChb, VS.kCh, VS.kNeg, VS.frzV, VS.kFz, VS.kConsB, VS.kCons, VS.kMutA, VS.kUn, VS.kDisp, VS.kB, VS.kIsi, VS.kFo, VS.kCall, VS.kRev, VS.kPartB, VS.kPart, VS.kSlc, VS.kSlb, VS.kSl, VS.kMutT, VS.kMutR, VS.kSeq, VS.kSet, VS.kRet, VS.kExpr, VS.kIfS, VS.kAsg, VS.kStoT, VS.kStoI, VS.kSto, VS.kFor, VS.kOf, VS.kRng, VS.kFn, VS.kCompQ, VS.kComp, VS.kIsx, VS.kTry, VS.exName, VS.kM, VS.kMb, VS.kCv, VS.frz, VS.on1, VS.on2, VS.oErr, VS.opSl, VS.opRev, VS.isL, VS.isDc, VS.moAppend, VS.stL, VS.keeps, VS.keep, VS.mkTup, VS.allDat, VS.mkV, VS.pD, VS.pL, VS.pTu, VS.pI, VS.pB, VS.PV.tr, VS.PV.held, VS.toD, VS.toDs, VS.elems, VS.telems, VS.opI, VS.opB, VS.opAdd, VS.opEq, VS.opNe, VS.opIs, VS.opIsNot, VS.isNonT, VS.opIx, VS.subT, VS.datV, VS.ms, VS.noVw, VS.arT, VS.arTs, VS.okM, VS.putM, VS.unM, VS.valsA, VS.argsOut, VS.gNm, VS.gTp, VS.gEach, VS.kidsT, VS.tyT, VS.isTy, VS.bLen, VS.seqN, VS.seqD, VS.bList, VS.bRepr, VS.inR, VS.bSum2, VS.pTi, VS.bIndex, VS.bCount, VS.isLi, VS.opRg, VS.sh_int, VS.sh_bl, VS.sh_str, VS.sh_non, VS.eqv_int, VS.eqv_bl, VS.eqv_str, List.getElem?_cons_zero, List.getElem?_cons_succ, List.length_cons, List.length_nil, List.set_cons_zero, List.set_cons_succ, List.replicate_succ, List.replicate_zero, List.cons_append, List.nil_append, List.map_cons, List.map_nil, Option.map_some, Option.map_none, Option.bind_some, Option.bind_none, if_true, if_false, Bool.true_and, Bool.and_true, Bool.false_and, Bool.and_false, Bool.or_true, Bool.true_or, Bool.false_or, Bool.or_false, List.isEmpty_nil, List.isEmpty_cons, List.nodup_nil, decide_true, Bool.false_eq_true, true_and, and_true, Nat.zero_add, Nat.reduceAdd, Nat.reduceSub, Nat.reduceLT, Option.bind_eq_bind, Option.pure_def]
  refine e_least_over (c.kc true).neg (by omega) ?_
  simp only [knownD, toDs_map, toDs_ints, allDat_map, allDat_ints, eqv_ints, sh_ints, sh_nil, eqv_nil, sz_0, sz_1, sz_2, sz_3, sz_4, sz_5, sz_6, sz_7, sz_8, sz_9, sz_10, sz_11, sz_12, sz_13, sz_14, sz_15, sz_16, sz_17, sz_18, sz_19, sz_20, sz_21, sz_22, sz_23, sz_24, sz_25, sz_26, sz_27, sz_28, sz_29, sz_30, sz_31, sz_32, sz_33, sz_34, sz_35, sz_36, sz_37, sz_38, sz_39, sz_40, decide_eq_true_eq, Int.reduceLT, Int.reduceLE, Nat.reduceLeDiff, feedT, nd_one, at2_0, at2_1, at3_0, at3_1, at3_2, ix3_1, ix3_2, set3_1, set3_2, ↓VS.w_var, ↓VS.w_mv, ↓VS.w_c, ↓VS.w_2, ↓VS.w_and, ↓VS.w_or, ↓VS.w_not, ↓VS.w_if, ↓VS.w_ch, ↓VS.w_neg, ↓VS.w_fz, ↓VS.w_nil, ↓VS.w_cons, ↓VS.w_amut, ↓VS.w_disp, ↓VS.w_b, ↓VS.w_isi, ↓VS.w_call, ↓VS.w_rev, ↓VS.w_sl, ↓VS.w_mut, ↓VS.w_snil, ↓VS.w_seq, ↓VS.w_set, ↓VS.w_ret, ↓VS.w_expr, ↓VS.w_asg, ↓VS.w_sto, ↓VS.w_for, ↓VS.w_iof, ↓VS.w_rng, ↓VS.w_isx, ↓VS.w_efn, ↓VS.w_try, ↓VS.w_raise, ↓VS.w_m, ↓VS.w_callV, ↓VS.w_comp, ↓VS.w_yes, ↓VS.wO_some, ↓VS.wO_none, ↓VS.wO_map, ↓VS.wO_ite, VS.kMv, VS.k2b, VS.k2, VS.kQ, VS.kAnd, VS.kOr, VS.kNot, VS.kIf, VS.kChc, VS.kChb, VS.kCh, VS.kNeg, VS.frzV, VS.kFz, VS.kConsB, VS.kCons, VS.kMutA, VS.kUn, VS.kDisp, VS.kB, VS.kIsi, VS.kFo, VS.kCall, VS.kRev, VS.kPartB, VS.kPart, VS.kSlc, VS.kSlb, VS.kSl, VS.kMutT, VS.kMutR, VS.kSeq, VS.kSet, VS.kRet, VS.kExpr, VS.kIfS, VS.kAsg, VS.kStoT, VS.kStoI, VS.kSto, VS.kFor, VS.kOf, VS.kRng, VS.kFn, VS.kCompQ, VS.kComp, VS.kIsx, VS.kTry, VS.exName, VS.kM, VS.kMb, VS.kCv, VS.frz, VS.on1, VS.on2, VS.oErr, VS.opSl, VS.opRev, VS.isL, VS.isDc, VS.moAppend, VS.stL, VS.keeps, VS.keep, VS.mkTup, VS.allDat, VS.mkV, VS.pD, VS.pL, VS.pTu, VS.pI, VS.pB, VS.PV.tr, VS.PV.held, VS.toD, VS.toDs, VS.elems, VS.telems, VS.opI, VS.opB, VS.opAdd, VS.opEq, VS.opNe, VS.opIs, VS.opIsNot, VS.isNonT, VS.opIx, VS.subT, VS.datV, VS.ms, VS.noVw, VS.arT, VS.arTs, VS.okM, VS.putM, VS.unM, VS.valsA, VS.argsOut, VS.gNm, VS.gTp, VS.gEach, VS.kidsT, VS.tyT, VS.isTy, VS.bLen, VS.seqN, VS.seqD, VS.bList, VS.bRepr, VS.inR, VS.bSum2, VS.pTi, VS.bIndex, VS.bCount, VS.isLi, VS.opRg, VS.sh_int, VS.sh_bl, VS.sh_str, VS.sh_non, VS.eqv_int, VS.eqv_bl, VS.eqv_str, List.getElem?_cons_zero, List.getElem?_cons_succ, List.length_cons, List.length_nil, List.set_cons_zero, List.set_cons_succ, List.replicate_succ, List.replicate_zero, List.cons_append, List.nil_append, List.map_cons, List.map_nil, Option.map_some, Option.map_none, Option.bind_some, Option.bind_none, if_true, if_false, Bool.true_and, Bool.and_true, Bool.false_and, Bool.and_false, Bool.or_true, Bool.true_or, Bool.false_or, Bool.or_false, List.isEmpty_nil, List.isEmpty_cons, List.nodup_nil, decide_true, Bool.false_eq_true, true_and, and_true, Nat.zero_add, Nat.reduceAdd, Nat.reduceSub, Nat.reduceLT, Option.bind_eq_bind, Option.pure_def]
  exact hQ
end k62

set_option Elab.async false
set_option linter.all false
set_option maxRecDepth 100000
set_option backward.isDefEq.respectTransparency false
set_option maxHeartbeats 4000000
namespace k62
open PySem PySem.Spec VS PM
theorem e_law_over {vs : List Int} {x : Int} {Q : Fo → Prop} (hk : vs.length ≤ 100000) (hQ : Q (.ret (.dat (.int (ov x vs))) [.dat (.list (vs.map .int)), .dat (.int x)])) :
    WF F_law_e_over [.dat (.list (vs.map .int)), .dat (.int x)] Q := by
  unfold F_law_e_over
  rw [w_fn (by rfl)]
  unfold g_law_e_over
  have hs : vs.length ≤ sizeLine := sz_of hk
  simp only [wipeE, calmT, List.getD_cons_zero, List.getD_cons_succ, List.all_cons, List.all_nil, List.length_map, hs, toDs_map, toDs_ints, allDat_map, allDat_ints, eqv_ints, sh_ints, sh_nil, eqv_nil, sz_0, sz_1, sz_2, sz_3, sz_4, sz_5, sz_6, sz_7, sz_8, sz_9, sz_10, sz_11, sz_12, sz_13, sz_14, sz_15, sz_16, sz_17, sz_18, sz_19, sz_20, sz_21, sz_22, sz_23, sz_24, sz_25, sz_26, sz_27, sz_28, sz_29, sz_30, sz_31, sz_32, sz_33, sz_34, sz_35, sz_36, sz_37, sz_38, sz_39, sz_40, decide_eq_true_eq, Int.reduceLT, Int.reduceLE, Nat.reduceLeDiff, feedT, nd_one, at2_0, at2_1, at3_0, at3_1, at3_2, ix3_1, ix3_2, set3_1, set3_2, ↓VS.w_var, ↓VS.w_mv, ↓VS.w_c, ↓VS.w_2, ↓VS.w_and, ↓VS.w_or, ↓VS.w_not, ↓VS.w_if, ↓VS.w_ch, ↓VS.w_neg, ↓VS.w_fz, ↓VS.w_nil, ↓VS.w_cons, ↓VS.w_amut, ↓VS.w_disp, ↓VS.w_b, ↓VS.w_isi, ↓VS.w_call, ↓VS.w_rev, ↓VS.w_sl, ↓VS.w_mut, ↓VS.w_snil, ↓VS.w_seq, ↓VS.w_set, ↓VS.w_ret, ↓VS.w_expr, ↓VS.w_asg, ↓VS.w_sto, ↓VS.w_for, ↓VS.w_iof, ↓VS.w_rng, ↓VS.w_isx, ↓VS.w_efn, ↓VS.w_try, ↓VS.w_raise, ↓VS.w_m, ↓VS.w_callV, ↓VS.w_comp, ↓VS.w_yes, ↓VS.wO_some, ↓VS.wO_none, ↓VS.wO_map, ↓VS.wO_ite, VS.kMv, VS.k2b, VS.k2, VS.kQ, VS.kAnd, VS.kOr, VS.kNot, VS.kIf, VS.kChc, VS.kChb, VS.kCh, VS.kNeg, VS.frzV, VS.kFz, VS.kConsB, VS.kCons, VS.kMutA, VS.kUn, VS.kDisp, VS.kB, VS.kIsi, VS.kFo, VS.kCall, VS.kRev, VS.kPartB, VS.kPart, VS.kSlc, VS.kSlb, VS.kSl, VS.kMutT, VS.kMutR, VS.kSeq, VS.kSet, VS.kRet, VS.kExpr, VS.kIfS, VS.kAsg, VS.kStoT, VS.kStoI, VS.kSto, VS.kFor, VS.kOf, VS.kRng, VS.kFn, VS.kCompQ, VS.kComp, VS.kIsx, VS.kTry, VS.exName, VS.kM, VS.kMb, VS.kCv, VS.frz, VS.on1, VS.on2, VS.oErr, VS.opSl, VS.opRev, VS.isL, VS.isDc, VS.moAppend, VS.stL, VS.keeps, VS.keep, VS.mkTup, VS.allDat, VS.mkV, VS.pD, VS.pL, VS.pTu, VS.pI, VS.pB, VS.PV.tr, VS.PV.held, VS.toD, VS.toDs, VS.elems, VS.telems, VS.opI, VS.opB, VS.opAdd, VS.opEq, VS.opNe, VS.opIs, VS.opIsNot, VS.isNonT, VS.opIx, VS.subT, VS.datV, VS.ms, VS.noVw, VS.arT, VS.arTs, VS.okM, VS.putM, VS.unM, VS.valsA, VS.argsOut, VS.gNm, VS.gTp, VS.gEach, VS.kidsT, VS.tyT, VS.isTy, VS.bLen, VS.seqN, VS.seqD, VS.bList, VS.bRepr, VS.inR, VS.bSum2, VS.pTi, VS.bIndex, VS.bCount, VS.isLi, VS.opRg, VS.sh_int, VS.sh_bl, VS.sh_str, VS.sh_non, VS.eqv_int, VS.eqv_bl, VS.eqv_str, List.getElem?_cons_zero, List.getElem?_cons_succ, List.length_cons, List.length_nil, List.set_cons_zero, List.set_cons_succ, List.replicate_succ, List.replicate_zero, List.cons_append, List.nil_append, List.map_cons, List.map_nil, Option.map_some, Option.map_none, Option.bind_some, Option.bind_none, if_true, if_false, Bool.true_and, Bool.and_true, Bool.false_and, Bool.and_false, Bool.or_true, Bool.true_or, Bool.false_or, Bool.or_false, List.isEmpty_nil, List.isEmpty_cons, List.nodup_nil, decide_true, Bool.false_eq_true, true_and, and_true, Nat.zero_add, Nat.reduceAdd, Nat.reduceSub, Nat.reduceLT, Option.bind_eq_bind, Option.pure_def]
  refine wc_ints (fun v => decide (x ≤ v)) (fun v => v) rfl (fun n hn => ⟨_, rfl, rfl, ?_, fun _ => ?_⟩) ?_
  · simp only [toDs_map, toDs_ints, allDat_map, allDat_ints, eqv_ints, sh_ints, sh_nil, eqv_nil, sz_0, sz_1, sz_2, sz_3, sz_4, sz_5, sz_6, sz_7, sz_8, sz_9, sz_10, sz_11, sz_12, sz_13, sz_14, sz_15, sz_16, sz_17, sz_18, sz_19, sz_20, sz_21, sz_22, sz_23, sz_24, sz_25, sz_26, sz_27, sz_28, sz_29, sz_30, sz_31, sz_32, sz_33, sz_34, sz_35, sz_36, sz_37, sz_38, sz_39, sz_40, decide_eq_true_eq, Int.reduceLT, Int.reduceLE, Nat.reduceLeDiff, feedT, nd_one, at2_0, at2_1, at3_0, at3_1, at3_2, ix3_1, ix3_2, set3_1, set3_2, ↓VS.w_var, ↓VS.w_mv, ↓VS.w_c, ↓VS.w_2, ↓VS.w_and, ↓VS.w_or, ↓VS.w_not, ↓VS.w_if, ↓VS.w_ch, ↓VS.w_neg, ↓VS.w_fz, ↓VS.w_nil, ↓VS.w_cons, ↓VS.w_amut, ↓VS.w_disp, ↓VS.w_b, ↓VS.w_isi, ↓VS.w_call, ↓VS.w_rev, ↓VS.w_sl, ↓VS.w_mut, ↓VS.w_snil, ↓VS.w_seq, ↓VS.w_set, ↓VS.w_ret, ↓VS.w_expr, ↓VS.w_ifs, ↓VS.w_asg, ↓VS.w_sto, ↓VS.w_for, ↓VS.w_iof, ↓VS.w_rng, ↓VS.w_isx, ↓VS.w_efn, ↓VS.w_try, ↓VS.w_raise, ↓VS.w_m, ↓VS.w_callV, ↓VS.w_comp, ↓VS.w_yes, ↓VS.wO_some, ↓VS.wO_none, ↓VS.wO_map, ↓VS.wO_ite, VS.kMv, VS.k2b, VS.k2, VS.kQ, VS.kAnd, VS.kOr, VS.kNot, VS.kIf, VS.kChc, VS.kChb, VS.kCh, VS.kNeg, VS.frzV, VS.kFz, VS.kConsB, VS.kCons, VS.kMutA, VS.kUn, VS.kDisp, VS.kB, VS.kIsi, VS.kFo, VS.kCall, VS.kRev, VS.kPartB, VS.kPart, VS.kSlc, VS.kSlb, VS.kSl, VS.kMutT, VS.kMutR, VS.kSeq, VS.kSet, VS.kRet, VS.kExpr, VS.kIfS, VS.kAsg, VS.kStoT, VS.kStoI, VS.kSto, VS.kFor, VS.kOf, VS.kRng, VS.kFn, VS.kCompQ, VS.kComp, VS.kIsx, VS.kTry, VS.exName, VS.kM, VS.kMb, VS.kCv, VS.frz, VS.on1, VS.on2, VS.oErr, VS.opSl, VS.opRev, VS.isL, VS.isDc, VS.moAppend, VS.stL, VS.keeps, VS.keep, VS.mkTup, VS.allDat, VS.mkV, VS.pD, VS.pL, VS.pTu, VS.pI, VS.pB, VS.PV.tr, VS.PV.held, VS.toD, VS.toDs, VS.elems, VS.telems, VS.opI, VS.opB, VS.opAdd, VS.opEq, VS.opNe, VS.opIs, VS.opIsNot, VS.isNonT, VS.opIx, VS.subT, VS.datV, VS.ms, VS.noVw, VS.arT, VS.arTs, VS.okM, VS.putM, VS.unM, VS.valsA, VS.argsOut, VS.gNm, VS.gTp, VS.gEach, VS.kidsT, VS.tyT, VS.isTy, VS.bLen, VS.seqN, VS.seqD, VS.bList, VS.bRepr, VS.inR, VS.bSum2, VS.pTi, VS.bIndex, VS.bCount, VS.isLi, VS.opRg, VS.sh_int, VS.sh_bl, VS.sh_str, VS.sh_non, VS.eqv_int, VS.eqv_bl, VS.eqv_str, List.getElem?_cons_zero, List.getElem?_cons_succ, List.length_cons, List.length_nil, List.set_cons_zero, List.set_cons_succ, List.replicate_succ, List.replicate_zero, List.cons_append, List.nil_append, List.map_cons, List.map_nil, Option.map_some, Option.map_none, Option.bind_some, Option.bind_none, if_true, if_false, Bool.true_and, Bool.and_true, Bool.false_and, Bool.and_false, Bool.or_true, Bool.true_or, Bool.false_or, Bool.or_false, List.isEmpty_nil, List.isEmpty_cons, List.nodup_nil, decide_true, Bool.false_eq_true, true_and, and_true, Nat.zero_add, Nat.reduceAdd, Nat.reduceSub, Nat.reduceLT, Option.bind_eq_bind, Option.pure_def]; exact ⟨_, rfl, rfl⟩
  · simp only [toDs_map, toDs_ints, allDat_map, allDat_ints, eqv_ints, sh_ints, sh_nil, eqv_nil, sz_0, sz_1, sz_2, sz_3, sz_4, sz_5, sz_6, sz_7, sz_8, sz_9, sz_10, sz_11, sz_12, sz_13, sz_14, sz_15, sz_16, sz_17, sz_18, sz_19, sz_20, sz_21, sz_22, sz_23, sz_24, sz_25, sz_26, sz_27, sz_28, sz_29, sz_30, sz_31, sz_32, sz_33, sz_34, sz_35, sz_36, sz_37, sz_38, sz_39, sz_40, decide_eq_true_eq, Int.reduceLT, Int.reduceLE, Nat.reduceLeDiff, feedT, nd_one, at2_0, at2_1, at3_0, at3_1, at3_2, ix3_1, ix3_2, set3_1, set3_2, ↓VS.w_var, ↓VS.w_mv, ↓VS.w_c, ↓VS.w_2, ↓VS.w_and, ↓VS.w_or, ↓VS.w_not, ↓VS.w_if, ↓VS.w_ch, ↓VS.w_neg, ↓VS.w_fz, ↓VS.w_nil, ↓VS.w_cons, ↓VS.w_amut, ↓VS.w_disp, ↓VS.w_b, ↓VS.w_isi, ↓VS.w_call, ↓VS.w_rev, ↓VS.w_sl, ↓VS.w_mut, ↓VS.w_snil, ↓VS.w_seq, ↓VS.w_set, ↓VS.w_ret, ↓VS.w_expr, ↓VS.w_ifs, ↓VS.w_asg, ↓VS.w_sto, ↓VS.w_for, ↓VS.w_iof, ↓VS.w_rng, ↓VS.w_isx, ↓VS.w_efn, ↓VS.w_try, ↓VS.w_raise, ↓VS.w_m, ↓VS.w_callV, ↓VS.w_comp, ↓VS.w_yes, ↓VS.wO_some, ↓VS.wO_none, ↓VS.wO_map, ↓VS.wO_ite, VS.kMv, VS.k2b, VS.k2, VS.kQ, VS.kAnd, VS.kOr, VS.kNot, VS.kIf, VS.kChc, VS.kChb, VS.kCh, VS.kNeg, VS.frzV, VS.kFz, VS.kConsB, VS.kCons, VS.kMutA, VS.kUn, VS.kDisp, VS.kB, VS.kIsi, VS.kFo, VS.kCall, VS.kRev, VS.kPartB, VS.kPart, VS.kSlc, VS.kSlb, VS.kSl, VS.kMutT, VS.kMutR, VS.kSeq, VS.kSet, VS.kRet, VS.kExpr, VS.kIfS, VS.kAsg, VS.kStoT, VS.kStoI, VS.kSto, VS.kFor, VS.kOf, VS.kRng, VS.kFn, VS.kCompQ, VS.kComp, VS.kIsx, VS.kTry, VS.exName, VS.kM, VS.kMb, VS.kCv, VS.frz, VS.on1, VS.on2, VS.oErr, VS.opSl, VS.opRev, VS.isL, VS.isDc, VS.moAppend, VS.stL, VS.keeps, VS.keep, VS.mkTup, VS.allDat, VS.mkV, VS.pD, VS.pL, VS.pTu, VS.pI, VS.pB, VS.PV.tr, VS.PV.held, VS.toD, VS.toDs, VS.elems, VS.telems, VS.opI, VS.opB, VS.opAdd, VS.opEq, VS.opNe, VS.opIs, VS.opIsNot, VS.isNonT, VS.opIx, VS.subT, VS.datV, VS.ms, VS.noVw, VS.arT, VS.arTs, VS.okM, VS.putM, VS.unM, VS.valsA, VS.argsOut, VS.gNm, VS.gTp, VS.gEach, VS.kidsT, VS.tyT, VS.isTy, VS.bLen, VS.seqN, VS.seqD, VS.bList, VS.bRepr, VS.inR, VS.bSum2, VS.pTi, VS.bIndex, VS.bCount, VS.isLi, VS.opRg, VS.sh_int, VS.sh_bl, VS.sh_str, VS.sh_non, VS.eqv_int, VS.eqv_bl, VS.eqv_str, List.getElem?_cons_zero, List.getElem?_cons_succ, List.length_cons, List.length_nil, List.set_cons_zero, List.set_cons_succ, List.replicate_succ, List.replicate_zero, List.cons_append, List.nil_append, List.map_cons, List.map_nil, Option.map_some, Option.map_none, Option.bind_some, Option.bind_none, if_true, if_false, Bool.true_and, Bool.and_true, Bool.false_and, Bool.and_false, Bool.or_true, Bool.true_or, Bool.false_or, Bool.or_false, List.isEmpty_nil, List.isEmpty_cons, List.nodup_nil, decide_true, Bool.false_eq_true, true_and, and_true, Nat.zero_add, Nat.reduceAdd, Nat.reduceSub, Nat.reduceLT, Option.bind_eq_bind, Option.pure_def]; exact ⟨_, rfl, rfl⟩
  have eo : (vs.filter fun v => decide (x ≤ v)).length = ov x vs := by
    rw [ov, List.countP_eq_length_filter]
  simp only [kCompQ, List.nil_append, List.length_map, eo, toDs_map, toDs_ints, allDat_map, allDat_ints, eqv_ints, sh_ints, sh_nil, eqv_nil, sz_0, sz_1, sz_2, sz_3, sz_4, sz_5, sz_6, sz_7, sz_8, sz_9, sz_10, sz_11, sz_12, sz_13, sz_14, sz_15, sz_16, sz_17, sz_18, sz_19, sz_20, sz_21, sz_22, sz_23, sz_24, sz_25, sz_26, sz_27, sz_28, sz_29, sz_30, sz_31, sz_32, sz_33, sz_34, sz_35, sz_36, sz_37, sz_38, sz_39, sz_40, decide_eq_true_eq, Int.reduceLT, Int.reduceLE, Nat.reduceLeDiff, feedT, nd_one, at2_0, at2_1, at3_0, at3_1, at3_2, ix3_1, ix3_2, set3_1, set3_2, ↓VS.w_var, ↓VS.w_mv, ↓VS.w_c, ↓VS.w_2, ↓VS.w_and, ↓VS.w_or, ↓VS.w_not, ↓VS.w_if, ↓VS.w_ch, ↓VS.w_neg, ↓VS.w_fz, ↓VS.w_nil, ↓VS.w_cons, ↓VS.w_amut, ↓VS.w_disp, ↓VS.w_b, ↓VS.w_isi, ↓VS.w_call, ↓VS.w_rev, ↓VS.w_sl, ↓VS.w_mut, ↓VS.w_snil, ↓VS.w_seq, ↓VS.w_set, ↓VS.w_ret, ↓VS.w_expr, ↓VS.w_asg, ↓VS.w_sto, ↓VS.w_for, ↓VS.w_iof, ↓VS.w_rng, ↓VS.w_isx, ↓VS.w_efn, ↓VS.w_try, ↓VS.w_raise, ↓VS.w_m, ↓VS.w_callV, ↓VS.w_comp, ↓VS.w_yes, ↓VS.wO_some, ↓VS.wO_none, ↓VS.wO_map, ↓VS.wO_ite, VS.kMv, VS.k2b, VS.k2, VS.kQ, VS.kAnd, VS.kOr, VS.kNot, VS.kIf, VS.kChc, VS.kChb, VS.kCh, VS.kNeg, VS.frzV, VS.kFz, VS.kConsB, VS.kCons, VS.kMutA, VS.kUn, VS.kDisp, VS.kB, VS.kIsi, VS.kFo, VS.kCall, VS.kRev, VS.kPartB, VS.kPart, VS.kSlc, VS.kSlb, VS.kSl, VS.kMutT, VS.kMutR, VS.kSeq, VS.kSet, VS.kRet, VS.kExpr, VS.kIfS, VS.kAsg, VS.kStoT, VS.kStoI, VS.kSto, VS.kFor, VS.kOf, VS.kRng, VS.kFn, VS.kCompQ, VS.kComp, VS.kIsx, VS.kTry, VS.exName, VS.kM, VS.kMb, VS.kCv, VS.frz, VS.on1, VS.on2, VS.oErr, VS.opSl, VS.opRev, VS.isL, VS.isDc, VS.moAppend, VS.stL, VS.keeps, VS.keep, VS.mkTup, VS.allDat, VS.mkV, VS.pD, VS.pL, VS.pTu, VS.pI, VS.pB, VS.PV.tr, VS.PV.held, VS.toD, VS.toDs, VS.elems, VS.telems, VS.opI, VS.opB, VS.opAdd, VS.opEq, VS.opNe, VS.opIs, VS.opIsNot, VS.isNonT, VS.opIx, VS.subT, VS.datV, VS.ms, VS.noVw, VS.arT, VS.arTs, VS.okM, VS.putM, VS.unM, VS.valsA, VS.argsOut, VS.gNm, VS.gTp, VS.gEach, VS.kidsT, VS.tyT, VS.isTy, VS.bLen, VS.seqN, VS.seqD, VS.bList, VS.bRepr, VS.inR, VS.bSum2, VS.pTi, VS.bIndex, VS.bCount, VS.isLi, VS.opRg, VS.sh_int, VS.sh_bl, VS.sh_str, VS.sh_non, VS.eqv_int, VS.eqv_bl, VS.eqv_str, List.getElem?_cons_zero, List.getElem?_cons_succ, List.length_cons, List.length_nil, List.set_cons_zero, List.set_cons_succ, List.replicate_succ, List.replicate_zero, List.cons_append, List.nil_append, List.map_cons, List.map_nil, Option.map_some, Option.map_none, Option.bind_some, Option.bind_none, if_true, if_false, Bool.true_and, Bool.and_true, Bool.false_and, Bool.and_false, Bool.or_true, Bool.true_or, Bool.false_or, Bool.or_false, List.isEmpty_nil, List.isEmpty_cons, List.nodup_nil, decide_true, Bool.false_eq_true, true_and, and_true, Nat.zero_add, Nat.reduceAdd, Nat.reduceSub, Nat.reduceLT, Option.bind_eq_bind, Option.pure_def]
  exact hQ
end k62

set_option Elab.async false
set_option linter.all false
set_option maxRecDepth 100000
set_option backward.isDefEq.respectTransparency false
set_option maxHeartbeats 4000000
namespace k62
open PySem PySem.Spec VS
/-- a case, perhaps one that can't be -/
structure CaseS (kept : List Int) (many : Nat) (low high : Int) (tot : Option Int) : Prop where
  kl : kept.length ≤ 5
  kb : ∀ x ∈ kept, -(10 ^ 30) ≤ x ∧ x ≤ 10 ^ 30
  mb : many ≤ 4
  lh : low ≤ high
  hl : high ≤ low + 4
  lb : -(10 ^ 30) ≤ low
  hb : high ≤ 10 ^ 30
  tb : ∀ t, tot = some t → -(10 ^ 32) ≤ t ∧ t ≤ 10 ^ 32
theorem e_case {cs : List Int} {a b : Int} {Q : Fo → Prop} (h0 : 0 ≤ a) (h1 : a ≤ 2 ^ 29) (hcs : cs.length ≤ 63)
    (hQ : ∀ kept many low high tot a' b', CaseS kept many low high tot → 0 ≤ a' → a' ≤ a + 30 → Q (.ret (.dat (caseD kept many low high tot)) [feedT cs a' b'])) : WF F_law_e_case [feedT cs a b] Q := by
  unfold F_law_e_case
  rw [w_fn (by rfl)]
  unfold g_law_e_case
  have pw6 : ((10 : Int) ^ (6 : Int).toNat) = 10 ^ 6 := rfl
  have pw29 : ((10 : Int) ^ (29 : Int).toNat) = 10 ^ 29 := rfl
  have pw30 : ((10 : Int) ^ (30 : Int).toNat) = 10 ^ 30 := rfl
  simp only [pw6, pw29, toDs_map, toDs_ints, allDat_map, allDat_ints, eqv_ints, sh_ints, sh_nil, eqv_nil, sz_0, sz_1, sz_2, sz_3, sz_4, sz_5, sz_6, sz_7, sz_8, sz_9, sz_10, sz_11, sz_12, sz_13, sz_14, sz_15, sz_16, sz_17, sz_18, sz_19, sz_20, sz_21, sz_22, sz_23, sz_24, sz_25, sz_26, sz_27, sz_28, sz_29, sz_30, sz_31, sz_32, sz_33, sz_34, sz_35, sz_36, sz_37, sz_38, sz_39, sz_40, decide_eq_true_eq, Int.reduceLT, Int.reduceLE, Nat.reduceLeDiff, feedT, nd_one, at2_0, at2_1, at3_0, at3_1, at3_2, ix3_1, ix3_2, set3_1, set3_2, ↓VS.w_var, ↓VS.w_mv, ↓VS.w_c, ↓VS.w_2, ↓VS.w_and, ↓VS.w_or, ↓VS.w_not, ↓VS.w_if, ↓VS.w_ch, ↓VS.w_neg, ↓VS.w_fz, ↓VS.w_nil, ↓VS.w_cons, ↓VS.w_amut, ↓VS.w_disp, ↓VS.w_b, ↓VS.w_isi, ↓VS.w_call, ↓VS.w_rev, ↓VS.w_sl, ↓VS.w_mut, ↓VS.w_snil, ↓VS.w_seq, ↓VS.w_set, ↓VS.w_ret, ↓VS.w_expr, ↓VS.w_asg, ↓VS.w_sto, ↓VS.w_for, ↓VS.w_iof, ↓VS.w_rng, ↓VS.w_isx, ↓VS.w_efn, ↓VS.w_try, ↓VS.w_raise, ↓VS.w_m, ↓VS.w_callV, ↓VS.w_comp, ↓VS.w_yes, ↓VS.wO_some, ↓VS.wO_none, ↓VS.wO_map, ↓VS.wO_ite, VS.kMv, VS.k2b, VS.k2, VS.kQ, VS.kAnd, VS.kOr, VS.kNot, VS.kIf, VS.kChc, VS.kChb, VS.kCh, VS.kNeg, VS.frzV, VS.kFz, VS.kConsB, VS.kCons, VS.kMutA, VS.kUn, VS.kDisp, VS.kB, VS.kIsi, VS.kFo, VS.kCall, VS.kRev, VS.kPartB, VS.kPart, VS.kSlc, VS.kSlb, VS.kSl, VS.kMutT, VS.kMutR, VS.kSeq, VS.kSet, VS.kRet, VS.kExpr, VS.kIfS, VS.kAsg, VS.kStoT, VS.kStoI, VS.kSto, VS.kFor, VS.kOf, VS.kRng, VS.kFn, VS.kCompQ, VS.kComp, VS.kIsx, VS.kTry, VS.exName, VS.kM, VS.kMb, VS.kCv, VS.frz, VS.on1, VS.on2, VS.oErr, VS.opSl, VS.opRev, VS.isL, VS.isDc, VS.moAppend, VS.stL, VS.keeps, VS.keep, VS.mkTup, VS.allDat, VS.mkV, VS.pD, VS.pL, VS.pTu, VS.pI, VS.pB, VS.PV.tr, VS.PV.held, VS.toD, VS.toDs, VS.elems, VS.telems, VS.opI, VS.opB, VS.opAdd, VS.opEq, VS.opNe, VS.opIs, VS.opIsNot, VS.isNonT, VS.opIx, VS.subT, VS.datV, VS.ms, VS.noVw, VS.arT, VS.arTs, VS.okM, VS.putM, VS.unM, VS.valsA, VS.argsOut, VS.gNm, VS.gTp, VS.gEach, VS.kidsT, VS.tyT, VS.isTy, VS.bLen, VS.seqN, VS.seqD, VS.bList, VS.bRepr, VS.inR, VS.bSum2, VS.pTi, VS.bIndex, VS.bCount, VS.isLi, VS.opRg, VS.sh_int, VS.sh_bl, VS.sh_str, VS.sh_non, VS.eqv_int, VS.eqv_bl, VS.eqv_str, List.getElem?_cons_zero, List.getElem?_cons_succ, List.length_cons, List.length_nil, List.set_cons_zero, List.set_cons_succ, List.replicate_succ, List.replicate_zero, List.cons_append, List.nil_append, List.map_cons, List.map_nil, Option.map_some, Option.map_none, Option.bind_some, Option.bind_none, if_true, if_false, Bool.true_and, Bool.and_true, Bool.false_and, Bool.and_false, Bool.or_true, Bool.true_or, Bool.false_or, Bool.or_false, List.isEmpty_nil, List.isEmpty_cons, List.nodup_nil, decide_true, Bool.false_eq_true, true_and, and_true, Nat.zero_add, Nat.reduceAdd, Nat.reduceSub, Nat.reduceLT, Option.bind_eq_bind, Option.pure_def]
  refine ⟨by decide, by decide, ?_⟩
  refine e_take h0 (by omega) hcs (by decide) (by decide) fun v1 a1 b1 p1 q1 r1 t1 => ?_
  obtain ⟨base, ef, hf⟩ := pick4 (x := 0) (y := -3) (z := 10 ^ 6) (w := 0 - 10 ^ 29) p1 q1
  have f0 : -(10 ^ 29) ≤ base ∧ base ≤ 10 ^ 6 := by omega
  clear hf
  simp only [ef, toDs_map, toDs_ints, allDat_map, allDat_ints, eqv_ints, sh_ints, sh_nil, eqv_nil, sz_0, sz_1, sz_2, sz_3, sz_4, sz_5, sz_6, sz_7, sz_8, sz_9, sz_10, sz_11, sz_12, sz_13, sz_14, sz_15, sz_16, sz_17, sz_18, sz_19, sz_20, sz_21, sz_22, sz_23, sz_24, sz_25, sz_26, sz_27, sz_28, sz_29, sz_30, sz_31, sz_32, sz_33, sz_34, sz_35, sz_36, sz_37, sz_38, sz_39, sz_40, decide_eq_true_eq, Int.reduceLT, Int.reduceLE, Nat.reduceLeDiff, feedT, nd_one, at2_0, at2_1, at3_0, at3_1, at3_2, ix3_1, ix3_2, set3_1, set3_2, ↓VS.w_var, ↓VS.w_mv, ↓VS.w_c, ↓VS.w_2, ↓VS.w_and, ↓VS.w_or, ↓VS.w_not, ↓VS.w_if, ↓VS.w_ch, ↓VS.w_neg, ↓VS.w_fz, ↓VS.w_nil, ↓VS.w_cons, ↓VS.w_amut, ↓VS.w_disp, ↓VS.w_b, ↓VS.w_isi, ↓VS.w_call, ↓VS.w_rev, ↓VS.w_sl, ↓VS.w_mut, ↓VS.w_snil, ↓VS.w_seq, ↓VS.w_set, ↓VS.w_ret, ↓VS.w_expr, ↓VS.w_asg, ↓VS.w_sto, ↓VS.w_for, ↓VS.w_iof, ↓VS.w_rng, ↓VS.w_isx, ↓VS.w_efn, ↓VS.w_try, ↓VS.w_raise, ↓VS.w_m, ↓VS.w_callV, ↓VS.w_comp, ↓VS.w_yes, ↓VS.wO_some, ↓VS.wO_none, ↓VS.wO_map, ↓VS.wO_ite, VS.kMv, VS.k2b, VS.k2, VS.kQ, VS.kAnd, VS.kOr, VS.kNot, VS.kIf, VS.kChc, VS.kChb, VS.kCh, VS.kNeg, VS.frzV, VS.kFz, VS.kConsB, VS.kCons, VS.kMutA, VS.kUn, VS.kDisp, VS.kB, VS.kIsi, VS.kFo, VS.kCall, VS.kRev, VS.kPartB, VS.kPart, VS.kSlc, VS.kSlb, VS.kSl, VS.kMutT, VS.kMutR, VS.kSeq, VS.kSet, VS.kRet, VS.kExpr, VS.kIfS, VS.kAsg, VS.kStoT, VS.kStoI, VS.kSto, VS.kFor, VS.kOf, VS.kRng, VS.kFn, VS.kCompQ, VS.kComp, VS.kIsx, VS.kTry, VS.exName, VS.kM, VS.kMb, VS.kCv, VS.frz, VS.on1, VS.on2, VS.oErr, VS.opSl, VS.opRev, VS.isL, VS.isDc, VS.moAppend, VS.stL, VS.keeps, VS.keep, VS.mkTup, VS.allDat, VS.mkV, VS.pD, VS.pL, VS.pTu, VS.pI, VS.pB, VS.PV.tr, VS.PV.held, VS.toD, VS.toDs, VS.elems, VS.telems, VS.opI, VS.opB, VS.opAdd, VS.opEq, VS.opNe, VS.opIs, VS.opIsNot, VS.isNonT, VS.opIx, VS.subT, VS.datV, VS.ms, VS.noVw, VS.arT, VS.arTs, VS.okM, VS.putM, VS.unM, VS.valsA, VS.argsOut, VS.gNm, VS.gTp, VS.gEach, VS.kidsT, VS.tyT, VS.isTy, VS.bLen, VS.seqN, VS.seqD, VS.bList, VS.bRepr, VS.inR, VS.bSum2, VS.pTi, VS.bIndex, VS.bCount, VS.isLi, VS.opRg, VS.sh_int, VS.sh_bl, VS.sh_str, VS.sh_non, VS.eqv_int, VS.eqv_bl, VS.eqv_str, List.getElem?_cons_zero, List.getElem?_cons_succ, List.length_cons, List.length_nil, List.set_cons_zero, List.set_cons_succ, List.replicate_succ, List.replicate_zero, List.cons_append, List.nil_append, List.map_cons, List.map_nil, Option.map_some, Option.map_none, Option.bind_some, Option.bind_none, if_true, if_false, Bool.true_and, Bool.and_true, Bool.false_and, Bool.and_false, Bool.or_true, Bool.true_or, Bool.false_or, Bool.or_false, List.isEmpty_nil, List.isEmpty_cons, List.nodup_nil, decide_true, Bool.false_eq_true, true_and, and_true, Nat.zero_add, Nat.reduceAdd, Nat.reduceSub, Nat.reduceLT, Option.bind_eq_bind, Option.pure_def]
  refine e_take r1 (by omega) hcs (by decide) (by decide) fun m a3 b3 p3 q3 r3 t3 => ?_
  obtain ⟨mn, rfl⟩ : ∃ n : Nat, m = n := ⟨m.toNat, by omega⟩
  simp only [toDs_map, toDs_ints, allDat_map, allDat_ints, eqv_ints, sh_ints, sh_nil, eqv_nil, sz_0, sz_1, sz_2, sz_3, sz_4, sz_5, sz_6, sz_7, sz_8, sz_9, sz_10, sz_11, sz_12, sz_13, sz_14, sz_15, sz_16, sz_17, sz_18, sz_19, sz_20, sz_21, sz_22, sz_23, sz_24, sz_25, sz_26, sz_27, sz_28, sz_29, sz_30, sz_31, sz_32, sz_33, sz_34, sz_35, sz_36, sz_37, sz_38, sz_39, sz_40, decide_eq_true_eq, Int.reduceLT, Int.reduceLE, Nat.reduceLeDiff, feedT, nd_one, at2_0, at2_1, at3_0, at3_1, at3_2, ix3_1, ix3_2, set3_1, set3_2, ↓VS.w_var, ↓VS.w_mv, ↓VS.w_c, ↓VS.w_2, ↓VS.w_and, ↓VS.w_or, ↓VS.w_not, ↓VS.w_if, ↓VS.w_ch, ↓VS.w_neg, ↓VS.w_fz, ↓VS.w_nil, ↓VS.w_cons, ↓VS.w_amut, ↓VS.w_disp, ↓VS.w_b, ↓VS.w_isi, ↓VS.w_call, ↓VS.w_rev, ↓VS.w_sl, ↓VS.w_mut, ↓VS.w_snil, ↓VS.w_seq, ↓VS.w_set, ↓VS.w_ret, ↓VS.w_expr, ↓VS.w_asg, ↓VS.w_sto, ↓VS.w_for, ↓VS.w_iof, ↓VS.w_rng, ↓VS.w_isx, ↓VS.w_efn, ↓VS.w_try, ↓VS.w_raise, ↓VS.w_m, ↓VS.w_callV, ↓VS.w_comp, ↓VS.w_yes, ↓VS.wO_some, ↓VS.wO_none, ↓VS.wO_map, ↓VS.wO_ite, VS.kMv, VS.k2b, VS.k2, VS.kQ, VS.kAnd, VS.kOr, VS.kNot, VS.kIf, VS.kChc, VS.kChb, VS.kCh, VS.kNeg, VS.frzV, VS.kFz, VS.kConsB, VS.kCons, VS.kMutA, VS.kUn, VS.kDisp, VS.kB, VS.kIsi, VS.kFo, VS.kCall, VS.kRev, VS.kPartB, VS.kPart, VS.kSlc, VS.kSlb, VS.kSl, VS.kMutT, VS.kMutR, VS.kSeq, VS.kSet, VS.kRet, VS.kExpr, VS.kIfS, VS.kAsg, VS.kStoT, VS.kStoI, VS.kSto, VS.kFor, VS.kOf, VS.kRng, VS.kFn, VS.kCompQ, VS.kComp, VS.kIsx, VS.kTry, VS.exName, VS.kM, VS.kMb, VS.kCv, VS.frz, VS.on1, VS.on2, VS.oErr, VS.opSl, VS.opRev, VS.isL, VS.isDc, VS.moAppend, VS.stL, VS.keeps, VS.keep, VS.mkTup, VS.allDat, VS.mkV, VS.pD, VS.pL, VS.pTu, VS.pI, VS.pB, VS.PV.tr, VS.PV.held, VS.toD, VS.toDs, VS.elems, VS.telems, VS.opI, VS.opB, VS.opAdd, VS.opEq, VS.opNe, VS.opIs, VS.opIsNot, VS.isNonT, VS.opIx, VS.subT, VS.datV, VS.ms, VS.noVw, VS.arT, VS.arTs, VS.okM, VS.putM, VS.unM, VS.valsA, VS.argsOut, VS.gNm, VS.gTp, VS.gEach, VS.kidsT, VS.tyT, VS.isTy, VS.bLen, VS.seqN, VS.seqD, VS.bList, VS.bRepr, VS.inR, VS.bSum2, VS.pTi, VS.bIndex, VS.bCount, VS.isLi, VS.opRg, VS.sh_int, VS.sh_bl, VS.sh_str, VS.sh_non, VS.eqv_int, VS.eqv_bl, VS.eqv_str, List.getElem?_cons_zero, List.getElem?_cons_succ, List.length_cons, List.length_nil, List.set_cons_zero, List.set_cons_succ, List.replicate_succ, List.replicate_zero, List.cons_append, List.nil_append, List.map_cons, List.map_nil, Option.map_some, Option.map_none, Option.bind_some, Option.bind_none, if_true, if_false, Bool.true_and, Bool.and_true, Bool.false_and, Bool.and_false, Bool.or_true, Bool.true_or, Bool.false_or, Bool.or_false, List.isEmpty_nil, List.isEmpty_cons, List.nodup_nil, decide_true, Bool.false_eq_true, true_and, and_true, Nat.zero_add, Nat.reduceAdd, Nat.reduceSub, Nat.reduceLT, Option.bind_eq_bind, Option.pure_def]
  refine e_take r3 (by omega) hcs (by decide) (by decide) fun v4 a4 b4 p4 q4 r4 t4 => ?_
  simp only [toDs_map, toDs_ints, allDat_map, allDat_ints, eqv_ints, sh_ints, sh_nil, eqv_nil, sz_0, sz_1, sz_2, sz_3, sz_4, sz_5, sz_6, sz_7, sz_8, sz_9, sz_10, sz_11, sz_12, sz_13, sz_14, sz_15, sz_16, sz_17, sz_18, sz_19, sz_20, sz_21, sz_22, sz_23, sz_24, sz_25, sz_26, sz_27, sz_28, sz_29, sz_30, sz_31, sz_32, sz_33, sz_34, sz_35, sz_36, sz_37, sz_38, sz_39, sz_40, decide_eq_true_eq, Int.reduceLT, Int.reduceLE, Nat.reduceLeDiff, feedT, nd_one, at2_0, at2_1, at3_0, at3_1, at3_2, ix3_1, ix3_2, set3_1, set3_2, ↓VS.w_var, ↓VS.w_mv, ↓VS.w_c, ↓VS.w_2, ↓VS.w_and, ↓VS.w_or, ↓VS.w_not, ↓VS.w_if, ↓VS.w_ch, ↓VS.w_neg, ↓VS.w_fz, ↓VS.w_nil, ↓VS.w_cons, ↓VS.w_amut, ↓VS.w_disp, ↓VS.w_b, ↓VS.w_isi, ↓VS.w_call, ↓VS.w_rev, ↓VS.w_sl, ↓VS.w_mut, ↓VS.w_snil, ↓VS.w_seq, ↓VS.w_set, ↓VS.w_ret, ↓VS.w_expr, ↓VS.w_asg, ↓VS.w_sto, ↓VS.w_for, ↓VS.w_iof, ↓VS.w_rng, ↓VS.w_isx, ↓VS.w_efn, ↓VS.w_try, ↓VS.w_raise, ↓VS.w_m, ↓VS.w_callV, ↓VS.w_comp, ↓VS.w_yes, ↓VS.wO_some, ↓VS.wO_none, ↓VS.wO_map, ↓VS.wO_ite, VS.kMv, VS.k2b, VS.k2, VS.kQ, VS.kAnd, VS.kOr, VS.kNot, VS.kIf, VS.kChc, VS.kChb, VS.kCh, VS.kNeg, VS.frzV, VS.kFz, VS.kConsB, VS.kCons, VS.kMutA, VS.kUn, VS.kDisp, VS.kB, VS.kIsi, VS.kFo, VS.kCall, VS.kRev, VS.kPartB, VS.kPart, VS.kSlc, VS.kSlb, VS.kSl, VS.kMutT, VS.kMutR, VS.kSeq, VS.kSet, VS.kRet, VS.kExpr, VS.kIfS, VS.kAsg, VS.kStoT, VS.kStoI, VS.kSto, VS.kFor, VS.kOf, VS.kRng, VS.kFn, VS.kCompQ, VS.kComp, VS.kIsx, VS.kTry, VS.exName, VS.kM, VS.kMb, VS.kCv, VS.frz, VS.on1, VS.on2, VS.oErr, VS.opSl, VS.opRev, VS.isL, VS.isDc, VS.moAppend, VS.stL, VS.keeps, VS.keep, VS.mkTup, VS.allDat, VS.mkV, VS.pD, VS.pL, VS.pTu, VS.pI, VS.pB, VS.PV.tr, VS.PV.held, VS.toD, VS.toDs, VS.elems, VS.telems, VS.opI, VS.opB, VS.opAdd, VS.opEq, VS.opNe, VS.opIs, VS.opIsNot, VS.isNonT, VS.opIx, VS.subT, VS.datV, VS.ms, VS.noVw, VS.arT, VS.arTs, VS.okM, VS.putM, VS.unM, VS.valsA, VS.argsOut, VS.gNm, VS.gTp, VS.gEach, VS.kidsT, VS.tyT, VS.isTy, VS.bLen, VS.seqN, VS.seqD, VS.bList, VS.bRepr, VS.inR, VS.bSum2, VS.pTi, VS.bIndex, VS.bCount, VS.isLi, VS.opRg, VS.sh_int, VS.sh_bl, VS.sh_str, VS.sh_non, VS.eqv_int, VS.eqv_bl, VS.eqv_str, List.getElem?_cons_zero, List.getElem?_cons_succ, List.length_cons, List.length_nil, List.set_cons_zero, List.set_cons_succ, List.replicate_succ, List.replicate_zero, List.cons_append, List.nil_append, List.map_cons, List.map_nil, Option.map_some, Option.map_none, Option.bind_some, Option.bind_none, if_true, if_false, Bool.true_and, Bool.and_true, Bool.false_and, Bool.and_false, Bool.or_true, Bool.true_or, Bool.false_or, Bool.or_false, List.isEmpty_nil, List.isEmpty_cons, List.nodup_nil, decide_true, Bool.false_eq_true, true_and, and_true, Nat.zero_add, Nat.reduceAdd, Nat.reduceSub, Nat.reduceLT, Option.bind_eq_bind, Option.pure_def]
  refine e_take r4 (by omega) hcs (by decide) (by decide) fun v5 a5 b5 p5 q5 r5 t5 => ?_
  generalize hlow : base + v4 = low
  generalize hhigh : low + v5 = high
  have lh : low ≤ high := by omega
  have lb : -(10 ^ 29) ≤ low := by omega
  have hb : high ≤ 10 ^ 29 := by omega
  have hl : high ≤ low + 4 := by omega
  have mnS : (mn : Int).natAbs < 2 ^ 250 := by omega
  have c2 : cMul (mn : Int) (high - low) = true := mul_ok mnS (by omega)
  have c3 : cMul (mn : Int) low = true := mul_ok mnS (by omega)
  have c4 : cMul (mn : Int) high = true := mul_ok mnS (by omega)
  simp only [hlow, hhigh, c2, c3, toDs_map, toDs_ints, allDat_map, allDat_ints, eqv_ints, sh_ints, sh_nil, eqv_nil, sz_0, sz_1, sz_2, sz_3, sz_4, sz_5, sz_6, sz_7, sz_8, sz_9, sz_10, sz_11, sz_12, sz_13, sz_14, sz_15, sz_16, sz_17, sz_18, sz_19, sz_20, sz_21, sz_22, sz_23, sz_24, sz_25, sz_26, sz_27, sz_28, sz_29, sz_30, sz_31, sz_32, sz_33, sz_34, sz_35, sz_36, sz_37, sz_38, sz_39, sz_40, decide_eq_true_eq, Int.reduceLT, Int.reduceLE, Nat.reduceLeDiff, feedT, nd_one, at2_0, at2_1, at3_0, at3_1, at3_2, ix3_1, ix3_2, set3_1, set3_2, ↓VS.w_var, ↓VS.w_mv, ↓VS.w_c, ↓VS.w_2, ↓VS.w_and, ↓VS.w_or, ↓VS.w_not, ↓VS.w_if, ↓VS.w_ch, ↓VS.w_neg, ↓VS.w_fz, ↓VS.w_nil, ↓VS.w_cons, ↓VS.w_amut, ↓VS.w_disp, ↓VS.w_b, ↓VS.w_isi, ↓VS.w_call, ↓VS.w_rev, ↓VS.w_sl, ↓VS.w_mut, ↓VS.w_snil, ↓VS.w_seq, ↓VS.w_set, ↓VS.w_ret, ↓VS.w_expr, ↓VS.w_asg, ↓VS.w_sto, ↓VS.w_for, ↓VS.w_iof, ↓VS.w_rng, ↓VS.w_isx, ↓VS.w_efn, ↓VS.w_try, ↓VS.w_raise, ↓VS.w_m, ↓VS.w_callV, ↓VS.w_comp, ↓VS.w_yes, ↓VS.wO_some, ↓VS.wO_none, ↓VS.wO_map, ↓VS.wO_ite, VS.kMv, VS.k2b, VS.k2, VS.kQ, VS.kAnd, VS.kOr, VS.kNot, VS.kIf, VS.kChc, VS.kChb, VS.kCh, VS.kNeg, VS.frzV, VS.kFz, VS.kConsB, VS.kCons, VS.kMutA, VS.kUn, VS.kDisp, VS.kB, VS.kIsi, VS.kFo, VS.kCall, VS.kRev, VS.kPartB, VS.kPart, VS.kSlc, VS.kSlb, VS.kSl, VS.kMutT, VS.kMutR, VS.kSeq, VS.kSet, VS.kRet, VS.kExpr, VS.kIfS, VS.kAsg, VS.kStoT, VS.kStoI, VS.kSto, VS.kFor, VS.kOf, VS.kRng, VS.kFn, VS.kCompQ, VS.kComp, VS.kIsx, VS.kTry, VS.exName, VS.kM, VS.kMb, VS.kCv, VS.frz, VS.on1, VS.on2, VS.oErr, VS.opSl, VS.opRev, VS.isL, VS.isDc, VS.moAppend, VS.stL, VS.keeps, VS.keep, VS.mkTup, VS.allDat, VS.mkV, VS.pD, VS.pL, VS.pTu, VS.pI, VS.pB, VS.PV.tr, VS.PV.held, VS.toD, VS.toDs, VS.elems, VS.telems, VS.opI, VS.opB, VS.opAdd, VS.opEq, VS.opNe, VS.opIs, VS.opIsNot, VS.isNonT, VS.opIx, VS.subT, VS.datV, VS.ms, VS.noVw, VS.arT, VS.arTs, VS.okM, VS.putM, VS.unM, VS.valsA, VS.argsOut, VS.gNm, VS.gTp, VS.gEach, VS.kidsT, VS.tyT, VS.isTy, VS.bLen, VS.seqN, VS.seqD, VS.bList, VS.bRepr, VS.inR, VS.bSum2, VS.pTi, VS.bIndex, VS.bCount, VS.isLi, VS.opRg, VS.sh_int, VS.sh_bl, VS.sh_str, VS.sh_non, VS.eqv_int, VS.eqv_bl, VS.eqv_str, List.getElem?_cons_zero, List.getElem?_cons_succ, List.length_cons, List.length_nil, List.set_cons_zero, List.set_cons_succ, List.replicate_succ, List.replicate_zero, List.cons_append, List.nil_append, List.map_cons, List.map_nil, Option.map_some, Option.map_none, Option.bind_some, Option.bind_none, if_true, if_false, Bool.true_and, Bool.and_true, Bool.false_and, Bool.and_false, Bool.or_true, Bool.true_or, Bool.false_or, Bool.or_false, List.isEmpty_nil, List.isEmpty_cons, List.nodup_nil, decide_true, Bool.false_eq_true, true_and, and_true, Nat.zero_add, Nat.reduceAdd, Nat.reduceSub, Nat.reduceLT, Option.bind_eq_bind, Option.pure_def]
  refine e_take r5 (by omega) hcs (by decide) (by decide) fun v6 a6 b6 p6 q6 r6 t6 => ?_
  have rl : (rngD 0 v6.toNat).length ≤ sizeLine := by rw [rng_len, PySem.sizeLine_eq]; omega
  simp only [rl, wipeE, calmT, List.getD_cons_zero, List.getD_cons_succ, List.all_cons, List.all_nil, kCompQ, restE, toDs_map, toDs_ints, allDat_map, allDat_ints, eqv_ints, sh_ints, sh_nil, eqv_nil, sz_0, sz_1, sz_2, sz_3, sz_4, sz_5, sz_6, sz_7, sz_8, sz_9, sz_10, sz_11, sz_12, sz_13, sz_14, sz_15, sz_16, sz_17, sz_18, sz_19, sz_20, sz_21, sz_22, sz_23, sz_24, sz_25, sz_26, sz_27, sz_28, sz_29, sz_30, sz_31, sz_32, sz_33, sz_34, sz_35, sz_36, sz_37, sz_38, sz_39, sz_40, decide_eq_true_eq, Int.reduceLT, Int.reduceLE, Nat.reduceLeDiff, feedT, nd_one, at2_0, at2_1, at3_0, at3_1, at3_2, ix3_1, ix3_2, set3_1, set3_2, ↓VS.w_var, ↓VS.w_mv, ↓VS.w_c, ↓VS.w_2, ↓VS.w_and, ↓VS.w_or, ↓VS.w_not, ↓VS.w_if, ↓VS.w_ch, ↓VS.w_neg, ↓VS.w_fz, ↓VS.w_nil, ↓VS.w_cons, ↓VS.w_amut, ↓VS.w_disp, ↓VS.w_b, ↓VS.w_isi, ↓VS.w_call, ↓VS.w_rev, ↓VS.w_sl, ↓VS.w_mut, ↓VS.w_snil, ↓VS.w_seq, ↓VS.w_set, ↓VS.w_ret, ↓VS.w_expr, ↓VS.w_asg, ↓VS.w_sto, ↓VS.w_for, ↓VS.w_iof, ↓VS.w_rng, ↓VS.w_isx, ↓VS.w_efn, ↓VS.w_try, ↓VS.w_raise, ↓VS.w_m, ↓VS.w_callV, ↓VS.w_comp, ↓VS.w_yes, ↓VS.wO_some, ↓VS.wO_none, ↓VS.wO_map, ↓VS.wO_ite, VS.kMv, VS.k2b, VS.k2, VS.kQ, VS.kAnd, VS.kOr, VS.kNot, VS.kIf, VS.kChc, VS.kChb, VS.kCh, VS.kNeg, VS.frzV, VS.kFz, VS.kConsB, VS.kCons, VS.kMutA, VS.kUn, VS.kDisp, VS.kB, VS.kIsi, VS.kFo, VS.kCall, VS.kRev, VS.kPartB, VS.kPart, VS.kSlc, VS.kSlb, VS.kSl, VS.kMutT, VS.kMutR, VS.kSeq, VS.kSet, VS.kRet, VS.kExpr, VS.kIfS, VS.kAsg, VS.kStoT, VS.kStoI, VS.kSto, VS.kFor, VS.kOf, VS.kRng, VS.kFn, VS.kCompQ, VS.kComp, VS.kIsx, VS.kTry, VS.exName, VS.kM, VS.kMb, VS.kCv, VS.frz, VS.on1, VS.on2, VS.oErr, VS.opSl, VS.opRev, VS.isL, VS.isDc, VS.moAppend, VS.stL, VS.keeps, VS.keep, VS.mkTup, VS.allDat, VS.mkV, VS.pD, VS.pL, VS.pTu, VS.pI, VS.pB, VS.PV.tr, VS.PV.held, VS.toD, VS.toDs, VS.elems, VS.telems, VS.opI, VS.opB, VS.opAdd, VS.opEq, VS.opNe, VS.opIs, VS.opIsNot, VS.isNonT, VS.opIx, VS.subT, VS.datV, VS.ms, VS.noVw, VS.arT, VS.arTs, VS.okM, VS.putM, VS.unM, VS.valsA, VS.argsOut, VS.gNm, VS.gTp, VS.gEach, VS.kidsT, VS.tyT, VS.isTy, VS.bLen, VS.seqN, VS.seqD, VS.bList, VS.bRepr, VS.inR, VS.bSum2, VS.pTi, VS.bIndex, VS.bCount, VS.isLi, VS.opRg, VS.sh_int, VS.sh_bl, VS.sh_str, VS.sh_non, VS.eqv_int, VS.eqv_bl, VS.eqv_str, List.getElem?_cons_zero, List.getElem?_cons_succ, List.length_cons, List.length_nil, List.set_cons_zero, List.set_cons_succ, List.replicate_succ, List.replicate_zero, List.cons_append, List.nil_append, List.map_cons, List.map_nil, Option.map_some, Option.map_none, Option.bind_some, Option.bind_none, if_true, if_false, Bool.true_and, Bool.and_true, Bool.false_and, Bool.and_false, Bool.or_true, Bool.true_or, Bool.false_or, Bool.or_false, List.isEmpty_nil, List.isEmpty_cons, List.nodup_nil, decide_true, Bool.false_eq_true, true_and, and_true, Nat.zero_add, Nat.reduceAdd, Nat.reduceSub, Nat.reduceLT, Option.bind_eq_bind, Option.pure_def]
  refine wc_inv (fun ds acc q e => ∃ (ns : List Int) (a' b' : Int) , acc = ns.map (fun n => T.dat (.int n)) ∧ 0 ≤ a' ∧ a' ≤ a + 6 + ns.length ∧ ns.length + ds.length ≤ 5 ∧ (∀ x ∈ ns, -(10 ^ 30) ≤ x ∧ x ≤ 10 ^ 30) ∧ (q = true → a' = a6 ∧ b' = b6) ∧ (∀ d ∈ ds, ∃ j : Int, d = .int j) ∧
      e = [T.lst [.dat (.list (cs.map .int)), .dat (.int a'), .dat (.int b')], .dat (.int base), .dat (.int mn), .dat (.int low), .dat (.int high), .un, .un, .un]) ?_ ?_ ⟨[], a6, b6, rfl, r6, by simp; omega, by rw [rng_len]; simp; omega, by simp, fun _ => ⟨rfl, rfl⟩, fun d hd => (rng_cast hd).imp fun j h => h.1, rfl⟩
  · rintro d r acc q e ⟨ns, a', b', rfl, k0, k1, k2, k3, k4, k5, rfl⟩
    obtain ⟨j, rfl⟩ := k5 _ List.mem_cons_self
    rw [List.length_cons] at k2
    simp only [wipeE, toDs_map, toDs_ints, allDat_map, allDat_ints, eqv_ints, sh_ints, sh_nil, eqv_nil, sz_0, sz_1, sz_2, sz_3, sz_4, sz_5, sz_6, sz_7, sz_8, sz_9, sz_10, sz_11, sz_12, sz_13, sz_14, sz_15, sz_16, sz_17, sz_18, sz_19, sz_20, sz_21, sz_22, sz_23, sz_24, sz_25, sz_26, sz_27, sz_28, sz_29, sz_30, sz_31, sz_32, sz_33, sz_34, sz_35, sz_36, sz_37, sz_38, sz_39, sz_40, decide_eq_true_eq, Int.reduceLT, Int.reduceLE, Nat.reduceLeDiff, feedT, nd_one, at2_0, at2_1, at3_0, at3_1, at3_2, ix3_1, ix3_2, set3_1, set3_2, ↓VS.w_var, ↓VS.w_mv, ↓VS.w_c, ↓VS.w_2, ↓VS.w_and, ↓VS.w_or, ↓VS.w_not, ↓VS.w_if, ↓VS.w_ch, ↓VS.w_neg, ↓VS.w_fz, ↓VS.w_nil, ↓VS.w_cons, ↓VS.w_amut, ↓VS.w_disp, ↓VS.w_b, ↓VS.w_isi, ↓VS.w_call, ↓VS.w_rev, ↓VS.w_sl, ↓VS.w_mut, ↓VS.w_snil, ↓VS.w_seq, ↓VS.w_set, ↓VS.w_ret, ↓VS.w_expr, ↓VS.w_ifs, ↓VS.w_asg, ↓VS.w_sto, ↓VS.w_for, ↓VS.w_iof, ↓VS.w_rng, ↓VS.w_isx, ↓VS.w_efn, ↓VS.w_try, ↓VS.w_raise, ↓VS.w_m, ↓VS.w_callV, ↓VS.w_comp, ↓VS.w_yes, ↓VS.wO_some, ↓VS.wO_none, ↓VS.wO_map, ↓VS.wO_ite, VS.kMv, VS.k2b, VS.k2, VS.kQ, VS.kAnd, VS.kOr, VS.kNot, VS.kIf, VS.kChc, VS.kChb, VS.kCh, VS.kNeg, VS.frzV, VS.kFz, VS.kConsB, VS.kCons, VS.kMutA, VS.kUn, VS.kDisp, VS.kB, VS.kIsi, VS.kFo, VS.kCall, VS.kRev, VS.kPartB, VS.kPart, VS.kSlc, VS.kSlb, VS.kSl, VS.kMutT, VS.kMutR, VS.kSeq, VS.kSet, VS.kRet, VS.kExpr, VS.kIfS, VS.kAsg, VS.kStoT, VS.kStoI, VS.kSto, VS.kFor, VS.kOf, VS.kRng, VS.kFn, VS.kCompQ, VS.kComp, VS.kIsx, VS.kTry, VS.exName, VS.kM, VS.kMb, VS.kCv, VS.frz, VS.on1, VS.on2, VS.oErr, VS.opSl, VS.opRev, VS.isL, VS.isDc, VS.moAppend, VS.stL, VS.keeps, VS.keep, VS.mkTup, VS.allDat, VS.mkV, VS.pD, VS.pL, VS.pTu, VS.pI, VS.pB, VS.PV.tr, VS.PV.held, VS.toD, VS.toDs, VS.elems, VS.telems, VS.opI, VS.opB, VS.opAdd, VS.opEq, VS.opNe, VS.opIs, VS.opIsNot, VS.isNonT, VS.opIx, VS.subT, VS.datV, VS.ms, VS.noVw, VS.arT, VS.arTs, VS.okM, VS.putM, VS.unM, VS.valsA, VS.argsOut, VS.gNm, VS.gTp, VS.gEach, VS.kidsT, VS.tyT, VS.isTy, VS.bLen, VS.seqN, VS.seqD, VS.bList, VS.bRepr, VS.inR, VS.bSum2, VS.pTi, VS.bIndex, VS.bCount, VS.isLi, VS.opRg, VS.sh_int, VS.sh_bl, VS.sh_str, VS.sh_non, VS.eqv_int, VS.eqv_bl, VS.eqv_str, List.getElem?_cons_zero, List.getElem?_cons_succ, List.length_cons, List.length_nil, List.set_cons_zero, List.set_cons_succ, List.replicate_succ, List.replicate_zero, List.cons_append, List.nil_append, List.map_cons, List.map_nil, Option.map_some, Option.map_none, Option.bind_some, Option.bind_none, if_true, if_false, Bool.true_and, Bool.and_true, Bool.false_and, Bool.and_false, Bool.or_true, Bool.true_or, Bool.false_or, Bool.or_false, List.isEmpty_nil, List.isEmpty_cons, List.nodup_nil, decide_true, Bool.false_eq_true, true_and, and_true, Nat.zero_add, Nat.reduceAdd, Nat.reduceSub, Nat.reduceLT, Option.bind_eq_bind, Option.pure_def]
    refine e_take k0 (by omega) hcs (by decide) (by decide) fun v7 a7 b7 p7 q7 r7 t7 => ?_
    simp only [wipeE, toDs_map, toDs_ints, allDat_map, allDat_ints, eqv_ints, sh_ints, sh_nil, eqv_nil, sz_0, sz_1, sz_2, sz_3, sz_4, sz_5, sz_6, sz_7, sz_8, sz_9, sz_10, sz_11, sz_12, sz_13, sz_14, sz_15, sz_16, sz_17, sz_18, sz_19, sz_20, sz_21, sz_22, sz_23, sz_24, sz_25, sz_26, sz_27, sz_28, sz_29, sz_30, sz_31, sz_32, sz_33, sz_34, sz_35, sz_36, sz_37, sz_38, sz_39, sz_40, decide_eq_true_eq, Int.reduceLT, Int.reduceLE, Nat.reduceLeDiff, feedT, nd_one, at2_0, at2_1, at3_0, at3_1, at3_2, ix3_1, ix3_2, set3_1, set3_2, ↓VS.w_var, ↓VS.w_mv, ↓VS.w_c, ↓VS.w_2, ↓VS.w_and, ↓VS.w_or, ↓VS.w_not, ↓VS.w_if, ↓VS.w_ch, ↓VS.w_neg, ↓VS.w_fz, ↓VS.w_nil, ↓VS.w_cons, ↓VS.w_amut, ↓VS.w_disp, ↓VS.w_b, ↓VS.w_isi, ↓VS.w_call, ↓VS.w_rev, ↓VS.w_sl, ↓VS.w_mut, ↓VS.w_snil, ↓VS.w_seq, ↓VS.w_set, ↓VS.w_ret, ↓VS.w_expr, ↓VS.w_ifs, ↓VS.w_asg, ↓VS.w_sto, ↓VS.w_for, ↓VS.w_iof, ↓VS.w_rng, ↓VS.w_isx, ↓VS.w_efn, ↓VS.w_try, ↓VS.w_raise, ↓VS.w_m, ↓VS.w_callV, ↓VS.w_comp, ↓VS.w_yes, ↓VS.wO_some, ↓VS.wO_none, ↓VS.wO_map, ↓VS.wO_ite, VS.kMv, VS.k2b, VS.k2, VS.kQ, VS.kAnd, VS.kOr, VS.kNot, VS.kIf, VS.kChc, VS.kChb, VS.kCh, VS.kNeg, VS.frzV, VS.kFz, VS.kConsB, VS.kCons, VS.kMutA, VS.kUn, VS.kDisp, VS.kB, VS.kIsi, VS.kFo, VS.kCall, VS.kRev, VS.kPartB, VS.kPart, VS.kSlc, VS.kSlb, VS.kSl, VS.kMutT, VS.kMutR, VS.kSeq, VS.kSet, VS.kRet, VS.kExpr, VS.kIfS, VS.kAsg, VS.kStoT, VS.kStoI, VS.kSto, VS.kFor, VS.kOf, VS.kRng, VS.kFn, VS.kCompQ, VS.kComp, VS.kIsx, VS.kTry, VS.exName, VS.kM, VS.kMb, VS.kCv, VS.frz, VS.on1, VS.on2, VS.oErr, VS.opSl, VS.opRev, VS.isL, VS.isDc, VS.moAppend, VS.stL, VS.keeps, VS.keep, VS.mkTup, VS.allDat, VS.mkV, VS.pD, VS.pL, VS.pTu, VS.pI, VS.pB, VS.PV.tr, VS.PV.held, VS.toD, VS.toDs, VS.elems, VS.telems, VS.opI, VS.opB, VS.opAdd, VS.opEq, VS.opNe, VS.opIs, VS.opIsNot, VS.isNonT, VS.opIx, VS.subT, VS.datV, VS.ms, VS.noVw, VS.arT, VS.arTs, VS.okM, VS.putM, VS.unM, VS.valsA, VS.argsOut, VS.gNm, VS.gTp, VS.gEach, VS.kidsT, VS.tyT, VS.isTy, VS.bLen, VS.seqN, VS.seqD, VS.bList, VS.bRepr, VS.inR, VS.bSum2, VS.pTi, VS.bIndex, VS.bCount, VS.isLi, VS.opRg, VS.sh_int, VS.sh_bl, VS.sh_str, VS.sh_non, VS.eqv_int, VS.eqv_bl, VS.eqv_str, List.getElem?_cons_zero, List.getElem?_cons_succ, List.length_cons, List.length_nil, List.set_cons_zero, List.set_cons_succ, List.replicate_succ, List.replicate_zero, List.cons_append, List.nil_append, List.map_cons, List.map_nil, Option.map_some, Option.map_none, Option.bind_some, Option.bind_none, if_true, if_false, Bool.true_and, Bool.and_true, Bool.false_and, Bool.and_false, Bool.or_true, Bool.true_or, Bool.false_or, Bool.or_false, List.isEmpty_nil, List.isEmpty_cons, List.nodup_nil, decide_true, Bool.false_eq_true, true_and, and_true, Nat.zero_add, Nat.reduceAdd, Nat.reduceSub, Nat.reduceLT, Option.bind_eq_bind, Option.pure_def]
    refine ⟨ns ++ [base + v7 - 3], a7, b7, by simp, r7, by simp; omega, by simp; omega, fun x hx => ?_, fun h => by simp at h, fun d hd => k5 d (List.mem_cons_of_mem _ hd), rfl⟩
    rcases List.mem_append.mp hx with hx | hx
    · exact k3 x hx
    · rw [List.mem_singleton.mp hx]; omega
  · rintro acc q e ⟨ns, a', b', rfl, k0, k1, k2, k3, k4, k5, rfl⟩
    have kl : ns.length ≤ 5 := by simp at k2; omega
    have fin : ∀ a'' b'', a'' = a' → b'' = b' → WS (sSeq (sSet 6 (eC .none)) (sSeq (sIf (e2 opGt (eCall F_law_e_take (aMut 0 (aCons (eC (.int 3)) (aNil)))) (eC (.int 0))) (sSet 6 (eFz (e2 opAdd (e2 opMul (eVar 2) (eVar 3)) (eCall F_law_e_take (aMut 0 (aCons (e2 opAdd (e2 opMul (eVar 2) (e2 opSub (eVar 4) (eVar 3))) (eC (.int 1))) (aNil))))))) (sNil)) (sSeq (sIf (e2 opEq (eCall F_law_e_take (aMut 0 (aCons (eC (.int 8)) (aNil)))) (eC (.int 0))) (sSet 6 (e2 opIx (eDisp .lst (aCons (e2 opSub (e2 opMul (eVar 2) (eVar 3)) (eC (.int 1))) (aCons (e2 opAdd (e2 opMul (eVar 2) (eVar 4)) (eC (.int 1))) (aCons (e2 opSub (e2 opSub (eC (.int 0)) (e2 opMul (eVar 2) (eVar 3))) (eC (.int 5))) (aCons (e2 opAdd (e2 opPow (eC (.int 10)) (eC (.int 30))) (eC (.int 1))) (aNil)))))) (eCall F_law_e_take (aMut 0 (aCons (eC (.int 4)) (aNil)))))) (sNil)) (sRet (eDisp mkTup (aCons (eVar 5) (aCons (eVar 2) (aCons (eVar 3) (aCons (eVar 4) (aCons (eVar 6) (aNil)))))))))))
        [T.lst [.dat (.list (cs.map .int)), .dat (.int a''), .dat (.int b'')], .dat (.int base), .dat (.int mn), .dat (.int low), .dat (.int high), .dat (.list (ns.map .int)), .un, .un] (kFn 1 [0] Q) := by
      rintro _ _ rfl rfl
      have mo0 : 0 ≤ (mn : Int) * (high - low) := Int.mul_nonneg (by omega) (by omega)
      have mo1 : (mn : Int) * (high - low) ≤ 4 * 4 := by
        have x1 : (mn : Int) * (high - low) ≤ mn * 4 := Int.mul_le_mul_of_nonneg_left (by omega) (by omega)
        omega
      have ml : -(10 ^ 31) ≤ (mn : Int) * low ∧ (mn : Int) * low ≤ 10 ^ 31 := by
        have x1 : (mn : Int) * (-(10 ^ 29)) ≤ mn * low := Int.mul_le_mul_of_nonneg_left lb (by omega)
        have x2 : (mn : Int) * low ≤ mn * 10 ^ 29 := Int.mul_le_mul_of_nonneg_left (by omega) (by omega)
        omega
      have mh : (mn : Int) * high = mn * low + mn * (high - low) := by rw [Int.mul_sub]; omega
      simp only [toDs_map, toDs_ints, allDat_map, allDat_ints, eqv_ints, sh_ints, sh_nil, eqv_nil, sz_0, sz_1, sz_2, sz_3, sz_4, sz_5, sz_6, sz_7, sz_8, sz_9, sz_10, sz_11, sz_12, sz_13, sz_14, sz_15, sz_16, sz_17, sz_18, sz_19, sz_20, sz_21, sz_22, sz_23, sz_24, sz_25, sz_26, sz_27, sz_28, sz_29, sz_30, sz_31, sz_32, sz_33, sz_34, sz_35, sz_36, sz_37, sz_38, sz_39, sz_40, decide_eq_true_eq, Int.reduceLT, Int.reduceLE, Nat.reduceLeDiff, feedT, nd_one, at2_0, at2_1, at3_0, at3_1, at3_2, ix3_1, ix3_2, set3_1, set3_2, ↓VS.w_var, ↓VS.w_mv, ↓VS.w_c, ↓VS.w_2, ↓VS.w_and, ↓VS.w_or, ↓VS.w_not, ↓VS.w_if, ↓VS.w_ch, ↓VS.w_neg, ↓VS.w_fz, ↓VS.w_nil, ↓VS.w_cons, ↓VS.w_amut, ↓VS.w_disp, ↓VS.w_b, ↓VS.w_isi, ↓VS.w_call, ↓VS.w_rev, ↓VS.w_sl, ↓VS.w_mut, ↓VS.w_snil, ↓VS.w_seq, ↓VS.w_set, ↓VS.w_ret, ↓VS.w_expr, ↓VS.w_asg, ↓VS.w_sto, ↓VS.w_for, ↓VS.w_iof, ↓VS.w_rng, ↓VS.w_isx, ↓VS.w_efn, ↓VS.w_try, ↓VS.w_raise, ↓VS.w_m, ↓VS.w_callV, ↓VS.w_comp, ↓VS.w_yes, ↓VS.wO_some, ↓VS.wO_none, ↓VS.wO_map, ↓VS.wO_ite, VS.kMv, VS.k2b, VS.k2, VS.kQ, VS.kAnd, VS.kOr, VS.kNot, VS.kIf, VS.kChc, VS.kChb, VS.kCh, VS.kNeg, VS.frzV, VS.kFz, VS.kConsB, VS.kCons, VS.kMutA, VS.kUn, VS.kDisp, VS.kB, VS.kIsi, VS.kFo, VS.kCall, VS.kRev, VS.kPartB, VS.kPart, VS.kSlc, VS.kSlb, VS.kSl, VS.kMutT, VS.kMutR, VS.kSeq, VS.kSet, VS.kRet, VS.kExpr, VS.kIfS, VS.kAsg, VS.kStoT, VS.kStoI, VS.kSto, VS.kFor, VS.kOf, VS.kRng, VS.kFn, VS.kCompQ, VS.kComp, VS.kIsx, VS.kTry, VS.exName, VS.kM, VS.kMb, VS.kCv, VS.frz, VS.on1, VS.on2, VS.oErr, VS.opSl, VS.opRev, VS.isL, VS.isDc, VS.moAppend, VS.stL, VS.keeps, VS.keep, VS.mkTup, VS.allDat, VS.mkV, VS.pD, VS.pL, VS.pTu, VS.pI, VS.pB, VS.PV.tr, VS.PV.held, VS.toD, VS.toDs, VS.elems, VS.telems, VS.opI, VS.opB, VS.opAdd, VS.opEq, VS.opNe, VS.opIs, VS.opIsNot, VS.isNonT, VS.opIx, VS.subT, VS.datV, VS.ms, VS.noVw, VS.arT, VS.arTs, VS.okM, VS.putM, VS.unM, VS.valsA, VS.argsOut, VS.gNm, VS.gTp, VS.gEach, VS.kidsT, VS.tyT, VS.isTy, VS.bLen, VS.seqN, VS.seqD, VS.bList, VS.bRepr, VS.inR, VS.bSum2, VS.pTi, VS.bIndex, VS.bCount, VS.isLi, VS.opRg, VS.sh_int, VS.sh_bl, VS.sh_str, VS.sh_non, VS.eqv_int, VS.eqv_bl, VS.eqv_str, List.getElem?_cons_zero, List.getElem?_cons_succ, List.length_cons, List.length_nil, List.set_cons_zero, List.set_cons_succ, List.replicate_succ, List.replicate_zero, List.cons_append, List.nil_append, List.map_cons, List.map_nil, Option.map_some, Option.map_none, Option.bind_some, Option.bind_none, if_true, if_false, Bool.true_and, Bool.and_true, Bool.false_and, Bool.and_false, Bool.or_true, Bool.true_or, Bool.false_or, Bool.or_false, List.isEmpty_nil, List.isEmpty_cons, List.nodup_nil, decide_true, Bool.false_eq_true, true_and, and_true, Nat.zero_add, Nat.reduceAdd, Nat.reduceSub, Nat.reduceLT, Option.bind_eq_bind, Option.pure_def]
      refine w_join (fun e => ∃ (a' b' : Int) (tot : Option Int), 0 ≤ a' ∧ a' ≤ a + 20 ∧ (∀ t, tot = some t → -(10 ^ 32) ≤ t ∧ t ≤ 10 ^ 32) ∧
        e = [T.lst [.dat (.list (cs.map .int)), .dat (.int a'), .dat (.int b')], .dat (.int base), .dat (.int mn), .dat (.int low), .dat (.int high), .dat (.list (ns.map .int)), .dat (oD tot), .un]) ?_ ?_
      · simp only [kI, toDs_map, toDs_ints, allDat_map, allDat_ints, eqv_ints, sh_ints, sh_nil, eqv_nil, sz_0, sz_1, sz_2, sz_3, sz_4, sz_5, sz_6, sz_7, sz_8, sz_9, sz_10, sz_11, sz_12, sz_13, sz_14, sz_15, sz_16, sz_17, sz_18, sz_19, sz_20, sz_21, sz_22, sz_23, sz_24, sz_25, sz_26, sz_27, sz_28, sz_29, sz_30, sz_31, sz_32, sz_33, sz_34, sz_35, sz_36, sz_37, sz_38, sz_39, sz_40, decide_eq_true_eq, Int.reduceLT, Int.reduceLE, Nat.reduceLeDiff, feedT, nd_one, at2_0, at2_1, at3_0, at3_1, at3_2, ix3_1, ix3_2, set3_1, set3_2, ↓VS.w_var, ↓VS.w_mv, ↓VS.w_c, ↓VS.w_2, ↓VS.w_and, ↓VS.w_or, ↓VS.w_not, ↓VS.w_if, ↓VS.w_ch, ↓VS.w_neg, ↓VS.w_fz, ↓VS.w_nil, ↓VS.w_cons, ↓VS.w_amut, ↓VS.w_disp, ↓VS.w_b, ↓VS.w_isi, ↓VS.w_call, ↓VS.w_rev, ↓VS.w_sl, ↓VS.w_mut, ↓VS.w_snil, ↓VS.w_seq, ↓VS.w_set, ↓VS.w_ret, ↓VS.w_expr, ↓VS.w_ifs, ↓VS.w_asg, ↓VS.w_sto, ↓VS.w_for, ↓VS.w_iof, ↓VS.w_rng, ↓VS.w_isx, ↓VS.w_efn, ↓VS.w_try, ↓VS.w_raise, ↓VS.w_m, ↓VS.w_callV, ↓VS.w_comp, ↓VS.w_yes, ↓VS.wO_some, ↓VS.wO_none, ↓VS.wO_map, ↓VS.wO_ite, VS.kMv, VS.k2b, VS.k2, VS.kQ, VS.kAnd, VS.kOr, VS.kNot, VS.kIf, VS.kChc, VS.kChb, VS.kCh, VS.kNeg, VS.frzV, VS.kFz, VS.kConsB, VS.kCons, VS.kMutA, VS.kUn, VS.kDisp, VS.kB, VS.kIsi, VS.kFo, VS.kCall, VS.kRev, VS.kPartB, VS.kPart, VS.kSlc, VS.kSlb, VS.kSl, VS.kMutT, VS.kMutR, VS.kSeq, VS.kSet, VS.kRet, VS.kExpr, VS.kIfS, VS.kAsg, VS.kStoT, VS.kStoI, VS.kSto, VS.kFor, VS.kOf, VS.kRng, VS.kFn, VS.kCompQ, VS.kComp, VS.kIsx, VS.kTry, VS.exName, VS.kM, VS.kMb, VS.kCv, VS.frz, VS.on1, VS.on2, VS.oErr, VS.opSl, VS.opRev, VS.isL, VS.isDc, VS.moAppend, VS.stL, VS.keeps, VS.keep, VS.mkTup, VS.allDat, VS.mkV, VS.pD, VS.pL, VS.pTu, VS.pI, VS.pB, VS.PV.tr, VS.PV.held, VS.toD, VS.toDs, VS.elems, VS.telems, VS.opI, VS.opB, VS.opAdd, VS.opEq, VS.opNe, VS.opIs, VS.opIsNot, VS.isNonT, VS.opIx, VS.subT, VS.datV, VS.ms, VS.noVw, VS.arT, VS.arTs, VS.okM, VS.putM, VS.unM, VS.valsA, VS.argsOut, VS.gNm, VS.gTp, VS.gEach, VS.kidsT, VS.tyT, VS.isTy, VS.bLen, VS.seqN, VS.seqD, VS.bList, VS.bRepr, VS.inR, VS.bSum2, VS.pTi, VS.bIndex, VS.bCount, VS.isLi, VS.opRg, VS.sh_int, VS.sh_bl, VS.sh_str, VS.sh_non, VS.eqv_int, VS.eqv_bl, VS.eqv_str, List.getElem?_cons_zero, List.getElem?_cons_succ, List.length_cons, List.length_nil, List.set_cons_zero, List.set_cons_succ, List.replicate_succ, List.replicate_zero, List.cons_append, List.nil_append, List.map_cons, List.map_nil, Option.map_some, Option.map_none, Option.bind_some, Option.bind_none, if_true, if_false, Bool.true_and, Bool.and_true, Bool.false_and, Bool.and_false, Bool.or_true, Bool.true_or, Bool.false_or, Bool.or_false, List.isEmpty_nil, List.isEmpty_cons, List.nodup_nil, decide_true, Bool.false_eq_true, true_and, and_true, Nat.zero_add, Nat.reduceAdd, Nat.reduceSub, Nat.reduceLT, Option.bind_eq_bind, Option.pure_def]
        refine e_take k0 (by omega) hcs (by decide) (by decide) fun v8 a8 b8 p8 q8 r8 t8 => ?_
        simp only [kI, toDs_map, toDs_ints, allDat_map, allDat_ints, eqv_ints, sh_ints, sh_nil, eqv_nil, sz_0, sz_1, sz_2, sz_3, sz_4, sz_5, sz_6, sz_7, sz_8, sz_9, sz_10, sz_11, sz_12, sz_13, sz_14, sz_15, sz_16, sz_17, sz_18, sz_19, sz_20, sz_21, sz_22, sz_23, sz_24, sz_25, sz_26, sz_27, sz_28, sz_29, sz_30, sz_31, sz_32, sz_33, sz_34, sz_35, sz_36, sz_37, sz_38, sz_39, sz_40, decide_eq_true_eq, Int.reduceLT, Int.reduceLE, Nat.reduceLeDiff, feedT, nd_one, at2_0, at2_1, at3_0, at3_1, at3_2, ix3_1, ix3_2, set3_1, set3_2, ↓VS.w_var, ↓VS.w_mv, ↓VS.w_c, ↓VS.w_2, ↓VS.w_and, ↓VS.w_or, ↓VS.w_not, ↓VS.w_if, ↓VS.w_ch, ↓VS.w_neg, ↓VS.w_fz, ↓VS.w_nil, ↓VS.w_cons, ↓VS.w_amut, ↓VS.w_disp, ↓VS.w_b, ↓VS.w_isi, ↓VS.w_call, ↓VS.w_rev, ↓VS.w_sl, ↓VS.w_mut, ↓VS.w_snil, ↓VS.w_seq, ↓VS.w_set, ↓VS.w_ret, ↓VS.w_expr, ↓VS.w_ifs, ↓VS.w_asg, ↓VS.w_sto, ↓VS.w_for, ↓VS.w_iof, ↓VS.w_rng, ↓VS.w_isx, ↓VS.w_efn, ↓VS.w_try, ↓VS.w_raise, ↓VS.w_m, ↓VS.w_callV, ↓VS.w_comp, ↓VS.w_yes, ↓VS.wO_some, ↓VS.wO_none, ↓VS.wO_map, ↓VS.wO_ite, VS.kMv, VS.k2b, VS.k2, VS.kQ, VS.kAnd, VS.kOr, VS.kNot, VS.kIf, VS.kChc, VS.kChb, VS.kCh, VS.kNeg, VS.frzV, VS.kFz, VS.kConsB, VS.kCons, VS.kMutA, VS.kUn, VS.kDisp, VS.kB, VS.kIsi, VS.kFo, VS.kCall, VS.kRev, VS.kPartB, VS.kPart, VS.kSlc, VS.kSlb, VS.kSl, VS.kMutT, VS.kMutR, VS.kSeq, VS.kSet, VS.kRet, VS.kExpr, VS.kIfS, VS.kAsg, VS.kStoT, VS.kStoI, VS.kSto, VS.kFor, VS.kOf, VS.kRng, VS.kFn, VS.kCompQ, VS.kComp, VS.kIsx, VS.kTry, VS.exName, VS.kM, VS.kMb, VS.kCv, VS.frz, VS.on1, VS.on2, VS.oErr, VS.opSl, VS.opRev, VS.isL, VS.isDc, VS.moAppend, VS.stL, VS.keeps, VS.keep, VS.mkTup, VS.allDat, VS.mkV, VS.pD, VS.pL, VS.pTu, VS.pI, VS.pB, VS.PV.tr, VS.PV.held, VS.toD, VS.toDs, VS.elems, VS.telems, VS.opI, VS.opB, VS.opAdd, VS.opEq, VS.opNe, VS.opIs, VS.opIsNot, VS.isNonT, VS.opIx, VS.subT, VS.datV, VS.ms, VS.noVw, VS.arT, VS.arTs, VS.okM, VS.putM, VS.unM, VS.valsA, VS.argsOut, VS.gNm, VS.gTp, VS.gEach, VS.kidsT, VS.tyT, VS.isTy, VS.bLen, VS.seqN, VS.seqD, VS.bList, VS.bRepr, VS.inR, VS.bSum2, VS.pTi, VS.bIndex, VS.bCount, VS.isLi, VS.opRg, VS.sh_int, VS.sh_bl, VS.sh_str, VS.sh_non, VS.eqv_int, VS.eqv_bl, VS.eqv_str, List.getElem?_cons_zero, List.getElem?_cons_succ, List.length_cons, List.length_nil, List.set_cons_zero, List.set_cons_succ, List.replicate_succ, List.replicate_zero, List.cons_append, List.nil_append, List.map_cons, List.map_nil, Option.map_some, Option.map_none, Option.bind_some, Option.bind_none, if_true, if_false, Bool.true_and, Bool.and_true, Bool.false_and, Bool.and_false, Bool.or_true, Bool.true_or, Bool.false_or, Bool.or_false, List.isEmpty_nil, List.isEmpty_cons, List.nodup_nil, decide_true, Bool.false_eq_true, true_and, and_true, Nat.zero_add, Nat.reduceAdd, Nat.reduceSub, Nat.reduceLT, Option.bind_eq_bind, Option.pure_def]
        refine ite_pr (fun _ => ?_) (fun _ => ⟨a8, b8, none, r8, by omega, (fun t h => nomatch h), rfl⟩)
        simp only [c2, c3, toDs_map, toDs_ints, allDat_map, allDat_ints, eqv_ints, sh_ints, sh_nil, eqv_nil, sz_0, sz_1, sz_2, sz_3, sz_4, sz_5, sz_6, sz_7, sz_8, sz_9, sz_10, sz_11, sz_12, sz_13, sz_14, sz_15, sz_16, sz_17, sz_18, sz_19, sz_20, sz_21, sz_22, sz_23, sz_24, sz_25, sz_26, sz_27, sz_28, sz_29, sz_30, sz_31, sz_32, sz_33, sz_34, sz_35, sz_36, sz_37, sz_38, sz_39, sz_40, decide_eq_true_eq, Int.reduceLT, Int.reduceLE, Nat.reduceLeDiff, feedT, nd_one, at2_0, at2_1, at3_0, at3_1, at3_2, ix3_1, ix3_2, set3_1, set3_2, ↓VS.w_var, ↓VS.w_mv, ↓VS.w_c, ↓VS.w_2, ↓VS.w_and, ↓VS.w_or, ↓VS.w_not, ↓VS.w_if, ↓VS.w_ch, ↓VS.w_neg, ↓VS.w_fz, ↓VS.w_nil, ↓VS.w_cons, ↓VS.w_amut, ↓VS.w_disp, ↓VS.w_b, ↓VS.w_isi, ↓VS.w_call, ↓VS.w_rev, ↓VS.w_sl, ↓VS.w_mut, ↓VS.w_snil, ↓VS.w_seq, ↓VS.w_set, ↓VS.w_ret, ↓VS.w_expr, ↓VS.w_ifs, ↓VS.w_asg, ↓VS.w_sto, ↓VS.w_for, ↓VS.w_iof, ↓VS.w_rng, ↓VS.w_isx, ↓VS.w_efn, ↓VS.w_try, ↓VS.w_raise, ↓VS.w_m, ↓VS.w_callV, ↓VS.w_comp, ↓VS.w_yes, ↓VS.wO_some, ↓VS.wO_none, ↓VS.wO_map, ↓VS.wO_ite, VS.kMv, VS.k2b, VS.k2, VS.kQ, VS.kAnd, VS.kOr, VS.kNot, VS.kIf, VS.kChc, VS.kChb, VS.kCh, VS.kNeg, VS.frzV, VS.kFz, VS.kConsB, VS.kCons, VS.kMutA, VS.kUn, VS.kDisp, VS.kB, VS.kIsi, VS.kFo, VS.kCall, VS.kRev, VS.kPartB, VS.kPart, VS.kSlc, VS.kSlb, VS.kSl, VS.kMutT, VS.kMutR, VS.kSeq, VS.kSet, VS.kRet, VS.kExpr, VS.kIfS, VS.kAsg, VS.kStoT, VS.kStoI, VS.kSto, VS.kFor, VS.kOf, VS.kRng, VS.kFn, VS.kCompQ, VS.kComp, VS.kIsx, VS.kTry, VS.exName, VS.kM, VS.kMb, VS.kCv, VS.frz, VS.on1, VS.on2, VS.oErr, VS.opSl, VS.opRev, VS.isL, VS.isDc, VS.moAppend, VS.stL, VS.keeps, VS.keep, VS.mkTup, VS.allDat, VS.mkV, VS.pD, VS.pL, VS.pTu, VS.pI, VS.pB, VS.PV.tr, VS.PV.held, VS.toD, VS.toDs, VS.elems, VS.telems, VS.opI, VS.opB, VS.opAdd, VS.opEq, VS.opNe, VS.opIs, VS.opIsNot, VS.isNonT, VS.opIx, VS.subT, VS.datV, VS.ms, VS.noVw, VS.arT, VS.arTs, VS.okM, VS.putM, VS.unM, VS.valsA, VS.argsOut, VS.gNm, VS.gTp, VS.gEach, VS.kidsT, VS.tyT, VS.isTy, VS.bLen, VS.seqN, VS.seqD, VS.bList, VS.bRepr, VS.inR, VS.bSum2, VS.pTi, VS.bIndex, VS.bCount, VS.isLi, VS.opRg, VS.sh_int, VS.sh_bl, VS.sh_str, VS.sh_non, VS.eqv_int, VS.eqv_bl, VS.eqv_str, List.getElem?_cons_zero, List.getElem?_cons_succ, List.length_cons, List.length_nil, List.set_cons_zero, List.set_cons_succ, List.replicate_succ, List.replicate_zero, List.cons_append, List.nil_append, List.map_cons, List.map_nil, Option.map_some, Option.map_none, Option.bind_some, Option.bind_none, if_true, if_false, Bool.true_and, Bool.and_true, Bool.false_and, Bool.and_false, Bool.or_true, Bool.true_or, Bool.false_or, Bool.or_false, List.isEmpty_nil, List.isEmpty_cons, List.nodup_nil, decide_true, Bool.false_eq_true, true_and, and_true, Nat.zero_add, Nat.reduceAdd, Nat.reduceSub, Nat.reduceLT, Option.bind_eq_bind, Option.pure_def]
        refine e_take (m := mn * (high - low) + 1) r8 (by omega) hcs (by omega) (by omega) fun v9 a9 b9 p9 q9 r9 t9 => ?_
        simp only [c2, c3, toDs_map, toDs_ints, allDat_map, allDat_ints, eqv_ints, sh_ints, sh_nil, eqv_nil, sz_0, sz_1, sz_2, sz_3, sz_4, sz_5, sz_6, sz_7, sz_8, sz_9, sz_10, sz_11, sz_12, sz_13, sz_14, sz_15, sz_16, sz_17, sz_18, sz_19, sz_20, sz_21, sz_22, sz_23, sz_24, sz_25, sz_26, sz_27, sz_28, sz_29, sz_30, sz_31, sz_32, sz_33, sz_34, sz_35, sz_36, sz_37, sz_38, sz_39, sz_40, decide_eq_true_eq, Int.reduceLT, Int.reduceLE, Nat.reduceLeDiff, feedT, nd_one, at2_0, at2_1, at3_0, at3_1, at3_2, ix3_1, ix3_2, set3_1, set3_2, ↓VS.w_var, ↓VS.w_mv, ↓VS.w_c, ↓VS.w_2, ↓VS.w_and, ↓VS.w_or, ↓VS.w_not, ↓VS.w_if, ↓VS.w_ch, ↓VS.w_neg, ↓VS.w_fz, ↓VS.w_nil, ↓VS.w_cons, ↓VS.w_amut, ↓VS.w_disp, ↓VS.w_b, ↓VS.w_isi, ↓VS.w_call, ↓VS.w_rev, ↓VS.w_sl, ↓VS.w_mut, ↓VS.w_snil, ↓VS.w_seq, ↓VS.w_set, ↓VS.w_ret, ↓VS.w_expr, ↓VS.w_ifs, ↓VS.w_asg, ↓VS.w_sto, ↓VS.w_for, ↓VS.w_iof, ↓VS.w_rng, ↓VS.w_isx, ↓VS.w_efn, ↓VS.w_try, ↓VS.w_raise, ↓VS.w_m, ↓VS.w_callV, ↓VS.w_comp, ↓VS.w_yes, ↓VS.wO_some, ↓VS.wO_none, ↓VS.wO_map, ↓VS.wO_ite, VS.kMv, VS.k2b, VS.k2, VS.kQ, VS.kAnd, VS.kOr, VS.kNot, VS.kIf, VS.kChc, VS.kChb, VS.kCh, VS.kNeg, VS.frzV, VS.kFz, VS.kConsB, VS.kCons, VS.kMutA, VS.kUn, VS.kDisp, VS.kB, VS.kIsi, VS.kFo, VS.kCall, VS.kRev, VS.kPartB, VS.kPart, VS.kSlc, VS.kSlb, VS.kSl, VS.kMutT, VS.kMutR, VS.kSeq, VS.kSet, VS.kRet, VS.kExpr, VS.kIfS, VS.kAsg, VS.kStoT, VS.kStoI, VS.kSto, VS.kFor, VS.kOf, VS.kRng, VS.kFn, VS.kCompQ, VS.kComp, VS.kIsx, VS.kTry, VS.exName, VS.kM, VS.kMb, VS.kCv, VS.frz, VS.on1, VS.on2, VS.oErr, VS.opSl, VS.opRev, VS.isL, VS.isDc, VS.moAppend, VS.stL, VS.keeps, VS.keep, VS.mkTup, VS.allDat, VS.mkV, VS.pD, VS.pL, VS.pTu, VS.pI, VS.pB, VS.PV.tr, VS.PV.held, VS.toD, VS.toDs, VS.elems, VS.telems, VS.opI, VS.opB, VS.opAdd, VS.opEq, VS.opNe, VS.opIs, VS.opIsNot, VS.isNonT, VS.opIx, VS.subT, VS.datV, VS.ms, VS.noVw, VS.arT, VS.arTs, VS.okM, VS.putM, VS.unM, VS.valsA, VS.argsOut, VS.gNm, VS.gTp, VS.gEach, VS.kidsT, VS.tyT, VS.isTy, VS.bLen, VS.seqN, VS.seqD, VS.bList, VS.bRepr, VS.inR, VS.bSum2, VS.pTi, VS.bIndex, VS.bCount, VS.isLi, VS.opRg, VS.sh_int, VS.sh_bl, VS.sh_str, VS.sh_non, VS.eqv_int, VS.eqv_bl, VS.eqv_str, List.getElem?_cons_zero, List.getElem?_cons_succ, List.length_cons, List.length_nil, List.set_cons_zero, List.set_cons_succ, List.replicate_succ, List.replicate_zero, List.cons_append, List.nil_append, List.map_cons, List.map_nil, Option.map_some, Option.map_none, Option.bind_some, Option.bind_none, if_true, if_false, Bool.true_and, Bool.and_true, Bool.false_and, Bool.and_false, Bool.or_true, Bool.true_or, Bool.false_or, Bool.or_false, List.isEmpty_nil, List.isEmpty_cons, List.nodup_nil, decide_true, Bool.false_eq_true, true_and, and_true, Nat.zero_add, Nat.reduceAdd, Nat.reduceSub, Nat.reduceLT, Option.bind_eq_bind, Option.pure_def]
        exact ⟨a9, b9, some (mn * low + v9), r9, by omega, fun t h => by cases h; omega, rfl⟩
      · rintro e ⟨a9, b9, tot, g0, g1, gt, rfl⟩
        simp only [toDs_map, toDs_ints, allDat_map, allDat_ints, eqv_ints, sh_ints, sh_nil, eqv_nil, sz_0, sz_1, sz_2, sz_3, sz_4, sz_5, sz_6, sz_7, sz_8, sz_9, sz_10, sz_11, sz_12, sz_13, sz_14, sz_15, sz_16, sz_17, sz_18, sz_19, sz_20, sz_21, sz_22, sz_23, sz_24, sz_25, sz_26, sz_27, sz_28, sz_29, sz_30, sz_31, sz_32, sz_33, sz_34, sz_35, sz_36, sz_37, sz_38, sz_39, sz_40, decide_eq_true_eq, Int.reduceLT, Int.reduceLE, Nat.reduceLeDiff, feedT, nd_one, at2_0, at2_1, at3_0, at3_1, at3_2, ix3_1, ix3_2, set3_1, set3_2, ↓VS.w_var, ↓VS.w_mv, ↓VS.w_c, ↓VS.w_2, ↓VS.w_and, ↓VS.w_or, ↓VS.w_not, ↓VS.w_if, ↓VS.w_ch, ↓VS.w_neg, ↓VS.w_fz, ↓VS.w_nil, ↓VS.w_cons, ↓VS.w_amut, ↓VS.w_disp, ↓VS.w_b, ↓VS.w_isi, ↓VS.w_call, ↓VS.w_rev, ↓VS.w_sl, ↓VS.w_mut, ↓VS.w_snil, ↓VS.w_seq, ↓VS.w_set, ↓VS.w_ret, ↓VS.w_expr, ↓VS.w_asg, ↓VS.w_sto, ↓VS.w_for, ↓VS.w_iof, ↓VS.w_rng, ↓VS.w_isx, ↓VS.w_efn, ↓VS.w_try, ↓VS.w_raise, ↓VS.w_m, ↓VS.w_callV, ↓VS.w_comp, ↓VS.w_yes, ↓VS.wO_some, ↓VS.wO_none, ↓VS.wO_map, ↓VS.wO_ite, VS.kMv, VS.k2b, VS.k2, VS.kQ, VS.kAnd, VS.kOr, VS.kNot, VS.kIf, VS.kChc, VS.kChb, VS.kCh, VS.kNeg, VS.frzV, VS.kFz, VS.kConsB, VS.kCons, VS.kMutA, VS.kUn, VS.kDisp, VS.kB, VS.kIsi, VS.kFo, VS.kCall, VS.kRev, VS.kPartB, VS.kPart, VS.kSlc, VS.kSlb, VS.kSl, VS.kMutT, VS.kMutR, VS.kSeq, VS.kSet, VS.kRet, VS.kExpr, VS.kIfS, VS.kAsg, VS.kStoT, VS.kStoI, VS.kSto, VS.kFor, VS.kOf, VS.kRng, VS.kFn, VS.kCompQ, VS.kComp, VS.kIsx, VS.kTry, VS.exName, VS.kM, VS.kMb, VS.kCv, VS.frz, VS.on1, VS.on2, VS.oErr, VS.opSl, VS.opRev, VS.isL, VS.isDc, VS.moAppend, VS.stL, VS.keeps, VS.keep, VS.mkTup, VS.allDat, VS.mkV, VS.pD, VS.pL, VS.pTu, VS.pI, VS.pB, VS.PV.tr, VS.PV.held, VS.toD, VS.toDs, VS.elems, VS.telems, VS.opI, VS.opB, VS.opAdd, VS.opEq, VS.opNe, VS.opIs, VS.opIsNot, VS.isNonT, VS.opIx, VS.subT, VS.datV, VS.ms, VS.noVw, VS.arT, VS.arTs, VS.okM, VS.putM, VS.unM, VS.valsA, VS.argsOut, VS.gNm, VS.gTp, VS.gEach, VS.kidsT, VS.tyT, VS.isTy, VS.bLen, VS.seqN, VS.seqD, VS.bList, VS.bRepr, VS.inR, VS.bSum2, VS.pTi, VS.bIndex, VS.bCount, VS.isLi, VS.opRg, VS.sh_int, VS.sh_bl, VS.sh_str, VS.sh_non, VS.eqv_int, VS.eqv_bl, VS.eqv_str, List.getElem?_cons_zero, List.getElem?_cons_succ, List.length_cons, List.length_nil, List.set_cons_zero, List.set_cons_succ, List.replicate_succ, List.replicate_zero, List.cons_append, List.nil_append, List.map_cons, List.map_nil, Option.map_some, Option.map_none, Option.bind_some, Option.bind_none, if_true, if_false, Bool.true_and, Bool.and_true, Bool.false_and, Bool.and_false, Bool.or_true, Bool.true_or, Bool.false_or, Bool.or_false, List.isEmpty_nil, List.isEmpty_cons, List.nodup_nil, decide_true, Bool.false_eq_true, true_and, and_true, Nat.zero_add, Nat.reduceAdd, Nat.reduceSub, Nat.reduceLT, Option.bind_eq_bind, Option.pure_def]
        refine w_join (fun e => ∃ (a' b' : Int) (tot : Option Int), 0 ≤ a' ∧ a' ≤ a + 30 ∧ (∀ t, tot = some t → -(10 ^ 32) ≤ t ∧ t ≤ 10 ^ 32) ∧
          e = [T.lst [.dat (.list (cs.map .int)), .dat (.int a'), .dat (.int b')], .dat (.int base), .dat (.int mn), .dat (.int low), .dat (.int high), .dat (.list (ns.map .int)), .dat (oD tot), .un]) ?_ ?_
        · simp only [kI, toDs_map, toDs_ints, allDat_map, allDat_ints, eqv_ints, sh_ints, sh_nil, eqv_nil, sz_0, sz_1, sz_2, sz_3, sz_4, sz_5, sz_6, sz_7, sz_8, sz_9, sz_10, sz_11, sz_12, sz_13, sz_14, sz_15, sz_16, sz_17, sz_18, sz_19, sz_20, sz_21, sz_22, sz_23, sz_24, sz_25, sz_26, sz_27, sz_28, sz_29, sz_30, sz_31, sz_32, sz_33, sz_34, sz_35, sz_36, sz_37, sz_38, sz_39, sz_40, decide_eq_true_eq, Int.reduceLT, Int.reduceLE, Nat.reduceLeDiff, feedT, nd_one, at2_0, at2_1, at3_0, at3_1, at3_2, ix3_1, ix3_2, set3_1, set3_2, ↓VS.w_var, ↓VS.w_mv, ↓VS.w_c, ↓VS.w_2, ↓VS.w_and, ↓VS.w_or, ↓VS.w_not, ↓VS.w_if, ↓VS.w_ch, ↓VS.w_neg, ↓VS.w_fz, ↓VS.w_nil, ↓VS.w_cons, ↓VS.w_amut, ↓VS.w_disp, ↓VS.w_b, ↓VS.w_isi, ↓VS.w_call, ↓VS.w_rev, ↓VS.w_sl, ↓VS.w_mut, ↓VS.w_snil, ↓VS.w_seq, ↓VS.w_set, ↓VS.w_ret, ↓VS.w_expr, ↓VS.w_ifs, ↓VS.w_asg, ↓VS.w_sto, ↓VS.w_for, ↓VS.w_iof, ↓VS.w_rng, ↓VS.w_isx, ↓VS.w_efn, ↓VS.w_try, ↓VS.w_raise, ↓VS.w_m, ↓VS.w_callV, ↓VS.w_comp, ↓VS.w_yes, ↓VS.wO_some, ↓VS.wO_none, ↓VS.wO_map, ↓VS.wO_ite, VS.kMv, VS.k2b, VS.k2, VS.kQ, VS.kAnd, VS.kOr, VS.kNot, VS.kIf, VS.kChc, VS.kChb, VS.kCh, VS.kNeg, VS.frzV, VS.kFz, VS.kConsB, VS.kCons, VS.kMutA, VS.kUn, VS.kDisp, VS.kB, VS.kIsi, VS.kFo, VS.kCall, VS.kRev, VS.kPartB, VS.kPart, VS.kSlc, VS.kSlb, VS.kSl, VS.kMutT, VS.kMutR, VS.kSeq, VS.kSet, VS.kRet, VS.kExpr, VS.kIfS, VS.kAsg, VS.kStoT, VS.kStoI, VS.kSto, VS.kFor, VS.kOf, VS.kRng, VS.kFn, VS.kCompQ, VS.kComp, VS.kIsx, VS.kTry, VS.exName, VS.kM, VS.kMb, VS.kCv, VS.frz, VS.on1, VS.on2, VS.oErr, VS.opSl, VS.opRev, VS.isL, VS.isDc, VS.moAppend, VS.stL, VS.keeps, VS.keep, VS.mkTup, VS.allDat, VS.mkV, VS.pD, VS.pL, VS.pTu, VS.pI, VS.pB, VS.PV.tr, VS.PV.held, VS.toD, VS.toDs, VS.elems, VS.telems, VS.opI, VS.opB, VS.opAdd, VS.opEq, VS.opNe, VS.opIs, VS.opIsNot, VS.isNonT, VS.opIx, VS.subT, VS.datV, VS.ms, VS.noVw, VS.arT, VS.arTs, VS.okM, VS.putM, VS.unM, VS.valsA, VS.argsOut, VS.gNm, VS.gTp, VS.gEach, VS.kidsT, VS.tyT, VS.isTy, VS.bLen, VS.seqN, VS.seqD, VS.bList, VS.bRepr, VS.inR, VS.bSum2, VS.pTi, VS.bIndex, VS.bCount, VS.isLi, VS.opRg, VS.sh_int, VS.sh_bl, VS.sh_str, VS.sh_non, VS.eqv_int, VS.eqv_bl, VS.eqv_str, List.getElem?_cons_zero, List.getElem?_cons_succ, List.length_cons, List.length_nil, List.set_cons_zero, List.set_cons_succ, List.replicate_succ, List.replicate_zero, List.cons_append, List.nil_append, List.map_cons, List.map_nil, Option.map_some, Option.map_none, Option.bind_some, Option.bind_none, if_true, if_false, Bool.true_and, Bool.and_true, Bool.false_and, Bool.and_false, Bool.or_true, Bool.true_or, Bool.false_or, Bool.or_false, List.isEmpty_nil, List.isEmpty_cons, List.nodup_nil, decide_true, Bool.false_eq_true, true_and, and_true, Nat.zero_add, Nat.reduceAdd, Nat.reduceSub, Nat.reduceLT, Option.bind_eq_bind, Option.pure_def]
          refine e_take g0 (by omega) hcs (by decide) (by decide) fun v8 a8 b8 p8 q8 r8 t8 => ?_
          simp only [kI, toDs_map, toDs_ints, allDat_map, allDat_ints, eqv_ints, sh_ints, sh_nil, eqv_nil, sz_0, sz_1, sz_2, sz_3, sz_4, sz_5, sz_6, sz_7, sz_8, sz_9, sz_10, sz_11, sz_12, sz_13, sz_14, sz_15, sz_16, sz_17, sz_18, sz_19, sz_20, sz_21, sz_22, sz_23, sz_24, sz_25, sz_26, sz_27, sz_28, sz_29, sz_30, sz_31, sz_32, sz_33, sz_34, sz_35, sz_36, sz_37, sz_38, sz_39, sz_40, decide_eq_true_eq, Int.reduceLT, Int.reduceLE, Nat.reduceLeDiff, feedT, nd_one, at2_0, at2_1, at3_0, at3_1, at3_2, ix3_1, ix3_2, set3_1, set3_2, ↓VS.w_var, ↓VS.w_mv, ↓VS.w_c, ↓VS.w_2, ↓VS.w_and, ↓VS.w_or, ↓VS.w_not, ↓VS.w_if, ↓VS.w_ch, ↓VS.w_neg, ↓VS.w_fz, ↓VS.w_nil, ↓VS.w_cons, ↓VS.w_amut, ↓VS.w_disp, ↓VS.w_b, ↓VS.w_isi, ↓VS.w_call, ↓VS.w_rev, ↓VS.w_sl, ↓VS.w_mut, ↓VS.w_snil, ↓VS.w_seq, ↓VS.w_set, ↓VS.w_ret, ↓VS.w_expr, ↓VS.w_ifs, ↓VS.w_asg, ↓VS.w_sto, ↓VS.w_for, ↓VS.w_iof, ↓VS.w_rng, ↓VS.w_isx, ↓VS.w_efn, ↓VS.w_try, ↓VS.w_raise, ↓VS.w_m, ↓VS.w_callV, ↓VS.w_comp, ↓VS.w_yes, ↓VS.wO_some, ↓VS.wO_none, ↓VS.wO_map, ↓VS.wO_ite, VS.kMv, VS.k2b, VS.k2, VS.kQ, VS.kAnd, VS.kOr, VS.kNot, VS.kIf, VS.kChc, VS.kChb, VS.kCh, VS.kNeg, VS.frzV, VS.kFz, VS.kConsB, VS.kCons, VS.kMutA, VS.kUn, VS.kDisp, VS.kB, VS.kIsi, VS.kFo, VS.kCall, VS.kRev, VS.kPartB, VS.kPart, VS.kSlc, VS.kSlb, VS.kSl, VS.kMutT, VS.kMutR, VS.kSeq, VS.kSet, VS.kRet, VS.kExpr, VS.kIfS, VS.kAsg, VS.kStoT, VS.kStoI, VS.kSto, VS.kFor, VS.kOf, VS.kRng, VS.kFn, VS.kCompQ, VS.kComp, VS.kIsx, VS.kTry, VS.exName, VS.kM, VS.kMb, VS.kCv, VS.frz, VS.on1, VS.on2, VS.oErr, VS.opSl, VS.opRev, VS.isL, VS.isDc, VS.moAppend, VS.stL, VS.keeps, VS.keep, VS.mkTup, VS.allDat, VS.mkV, VS.pD, VS.pL, VS.pTu, VS.pI, VS.pB, VS.PV.tr, VS.PV.held, VS.toD, VS.toDs, VS.elems, VS.telems, VS.opI, VS.opB, VS.opAdd, VS.opEq, VS.opNe, VS.opIs, VS.opIsNot, VS.isNonT, VS.opIx, VS.subT, VS.datV, VS.ms, VS.noVw, VS.arT, VS.arTs, VS.okM, VS.putM, VS.unM, VS.valsA, VS.argsOut, VS.gNm, VS.gTp, VS.gEach, VS.kidsT, VS.tyT, VS.isTy, VS.bLen, VS.seqN, VS.seqD, VS.bList, VS.bRepr, VS.inR, VS.bSum2, VS.pTi, VS.bIndex, VS.bCount, VS.isLi, VS.opRg, VS.sh_int, VS.sh_bl, VS.sh_str, VS.sh_non, VS.eqv_int, VS.eqv_bl, VS.eqv_str, List.getElem?_cons_zero, List.getElem?_cons_succ, List.length_cons, List.length_nil, List.set_cons_zero, List.set_cons_succ, List.replicate_succ, List.replicate_zero, List.cons_append, List.nil_append, List.map_cons, List.map_nil, Option.map_some, Option.map_none, Option.bind_some, Option.bind_none, if_true, if_false, Bool.true_and, Bool.and_true, Bool.false_and, Bool.and_false, Bool.or_true, Bool.true_or, Bool.false_or, Bool.or_false, List.isEmpty_nil, List.isEmpty_cons, List.nodup_nil, decide_true, Bool.false_eq_true, true_and, and_true, Nat.zero_add, Nat.reduceAdd, Nat.reduceSub, Nat.reduceLT, Option.bind_eq_bind, Option.pure_def]
          refine ite_pr (fun _ => ?_) (fun _ => ⟨a8, b8, tot, r8, by omega, gt, rfl⟩)
          have p30 : cPow 10 30 = true := by decide
          simp only [c3, c4, pw30, p30, toDs_map, toDs_ints, allDat_map, allDat_ints, eqv_ints, sh_ints, sh_nil, eqv_nil, sz_0, sz_1, sz_2, sz_3, sz_4, sz_5, sz_6, sz_7, sz_8, sz_9, sz_10, sz_11, sz_12, sz_13, sz_14, sz_15, sz_16, sz_17, sz_18, sz_19, sz_20, sz_21, sz_22, sz_23, sz_24, sz_25, sz_26, sz_27, sz_28, sz_29, sz_30, sz_31, sz_32, sz_33, sz_34, sz_35, sz_36, sz_37, sz_38, sz_39, sz_40, decide_eq_true_eq, Int.reduceLT, Int.reduceLE, Nat.reduceLeDiff, feedT, nd_one, at2_0, at2_1, at3_0, at3_1, at3_2, ix3_1, ix3_2, set3_1, set3_2, ↓VS.w_var, ↓VS.w_mv, ↓VS.w_c, ↓VS.w_2, ↓VS.w_and, ↓VS.w_or, ↓VS.w_not, ↓VS.w_if, ↓VS.w_ch, ↓VS.w_neg, ↓VS.w_fz, ↓VS.w_nil, ↓VS.w_cons, ↓VS.w_amut, ↓VS.w_disp, ↓VS.w_b, ↓VS.w_isi, ↓VS.w_call, ↓VS.w_rev, ↓VS.w_sl, ↓VS.w_mut, ↓VS.w_snil, ↓VS.w_seq, ↓VS.w_set, ↓VS.w_ret, ↓VS.w_expr, ↓VS.w_ifs, ↓VS.w_asg, ↓VS.w_sto, ↓VS.w_for, ↓VS.w_iof, ↓VS.w_rng, ↓VS.w_isx, ↓VS.w_efn, ↓VS.w_try, ↓VS.w_raise, ↓VS.w_m, ↓VS.w_callV, ↓VS.w_comp, ↓VS.w_yes, ↓VS.wO_some, ↓VS.wO_none, ↓VS.wO_map, ↓VS.wO_ite, VS.kMv, VS.k2b, VS.k2, VS.kQ, VS.kAnd, VS.kOr, VS.kNot, VS.kIf, VS.kChc, VS.kChb, VS.kCh, VS.kNeg, VS.frzV, VS.kFz, VS.kConsB, VS.kCons, VS.kMutA, VS.kUn, VS.kDisp, VS.kB, VS.kIsi, VS.kFo, VS.kCall, VS.kRev, VS.kPartB, VS.kPart, VS.kSlc, VS.kSlb, VS.kSl, VS.kMutT, VS.kMutR, VS.kSeq, VS.kSet, VS.kRet, VS.kExpr, VS.kIfS, VS.kAsg, VS.kStoT, VS.kStoI, VS.kSto, VS.kFor, VS.kOf, VS.kRng, VS.kFn, VS.kCompQ, VS.kComp, VS.kIsx, VS.kTry, VS.exName, VS.kM, VS.kMb, VS.kCv, VS.frz, VS.on1, VS.on2, VS.oErr, VS.opSl, VS.opRev, VS.isL, VS.isDc, VS.moAppend, VS.stL, VS.keeps, VS.keep, VS.mkTup, VS.allDat, VS.mkV, VS.pD, VS.pL, VS.pTu, VS.pI, VS.pB, VS.PV.tr, VS.PV.held, VS.toD, VS.toDs, VS.elems, VS.telems, VS.opI, VS.opB, VS.opAdd, VS.opEq, VS.opNe, VS.opIs, VS.opIsNot, VS.isNonT, VS.opIx, VS.subT, VS.datV, VS.ms, VS.noVw, VS.arT, VS.arTs, VS.okM, VS.putM, VS.unM, VS.valsA, VS.argsOut, VS.gNm, VS.gTp, VS.gEach, VS.kidsT, VS.tyT, VS.isTy, VS.bLen, VS.seqN, VS.seqD, VS.bList, VS.bRepr, VS.inR, VS.bSum2, VS.pTi, VS.bIndex, VS.bCount, VS.isLi, VS.opRg, VS.sh_int, VS.sh_bl, VS.sh_str, VS.sh_non, VS.eqv_int, VS.eqv_bl, VS.eqv_str, List.getElem?_cons_zero, List.getElem?_cons_succ, List.length_cons, List.length_nil, List.set_cons_zero, List.set_cons_succ, List.replicate_succ, List.replicate_zero, List.cons_append, List.nil_append, List.map_cons, List.map_nil, Option.map_some, Option.map_none, Option.bind_some, Option.bind_none, if_true, if_false, Bool.true_and, Bool.and_true, Bool.false_and, Bool.and_false, Bool.or_true, Bool.true_or, Bool.false_or, Bool.or_false, List.isEmpty_nil, List.isEmpty_cons, List.nodup_nil, decide_true, Bool.false_eq_true, true_and, and_true, Nat.zero_add, Nat.reduceAdd, Nat.reduceSub, Nat.reduceLT, Option.bind_eq_bind, Option.pure_def]
          refine e_take r8 (by omega) hcs (by decide) (by decide) fun v9 a9 b9 p9 q9 r9 t9 => ?_
          obtain ⟨t, et, ht⟩ := pick4 (x := mn * low - 1) (y := mn * high + 1) (z := 0 - mn * low - 5) (w := 10 ^ 30 + 1) p9 q9
          simp only [et, toDs_map, toDs_ints, allDat_map, allDat_ints, eqv_ints, sh_ints, sh_nil, eqv_nil, sz_0, sz_1, sz_2, sz_3, sz_4, sz_5, sz_6, sz_7, sz_8, sz_9, sz_10, sz_11, sz_12, sz_13, sz_14, sz_15, sz_16, sz_17, sz_18, sz_19, sz_20, sz_21, sz_22, sz_23, sz_24, sz_25, sz_26, sz_27, sz_28, sz_29, sz_30, sz_31, sz_32, sz_33, sz_34, sz_35, sz_36, sz_37, sz_38, sz_39, sz_40, decide_eq_true_eq, Int.reduceLT, Int.reduceLE, Nat.reduceLeDiff, feedT, nd_one, at2_0, at2_1, at3_0, at3_1, at3_2, ix3_1, ix3_2, set3_1, set3_2, ↓VS.w_var, ↓VS.w_mv, ↓VS.w_c, ↓VS.w_2, ↓VS.w_and, ↓VS.w_or, ↓VS.w_not, ↓VS.w_if, ↓VS.w_ch, ↓VS.w_neg, ↓VS.w_fz, ↓VS.w_nil, ↓VS.w_cons, ↓VS.w_amut, ↓VS.w_disp, ↓VS.w_b, ↓VS.w_isi, ↓VS.w_call, ↓VS.w_rev, ↓VS.w_sl, ↓VS.w_mut, ↓VS.w_snil, ↓VS.w_seq, ↓VS.w_set, ↓VS.w_ret, ↓VS.w_expr, ↓VS.w_ifs, ↓VS.w_asg, ↓VS.w_sto, ↓VS.w_for, ↓VS.w_iof, ↓VS.w_rng, ↓VS.w_isx, ↓VS.w_efn, ↓VS.w_try, ↓VS.w_raise, ↓VS.w_m, ↓VS.w_callV, ↓VS.w_comp, ↓VS.w_yes, ↓VS.wO_some, ↓VS.wO_none, ↓VS.wO_map, ↓VS.wO_ite, VS.kMv, VS.k2b, VS.k2, VS.kQ, VS.kAnd, VS.kOr, VS.kNot, VS.kIf, VS.kChc, VS.kChb, VS.kCh, VS.kNeg, VS.frzV, VS.kFz, VS.kConsB, VS.kCons, VS.kMutA, VS.kUn, VS.kDisp, VS.kB, VS.kIsi, VS.kFo, VS.kCall, VS.kRev, VS.kPartB, VS.kPart, VS.kSlc, VS.kSlb, VS.kSl, VS.kMutT, VS.kMutR, VS.kSeq, VS.kSet, VS.kRet, VS.kExpr, VS.kIfS, VS.kAsg, VS.kStoT, VS.kStoI, VS.kSto, VS.kFor, VS.kOf, VS.kRng, VS.kFn, VS.kCompQ, VS.kComp, VS.kIsx, VS.kTry, VS.exName, VS.kM, VS.kMb, VS.kCv, VS.frz, VS.on1, VS.on2, VS.oErr, VS.opSl, VS.opRev, VS.isL, VS.isDc, VS.moAppend, VS.stL, VS.keeps, VS.keep, VS.mkTup, VS.allDat, VS.mkV, VS.pD, VS.pL, VS.pTu, VS.pI, VS.pB, VS.PV.tr, VS.PV.held, VS.toD, VS.toDs, VS.elems, VS.telems, VS.opI, VS.opB, VS.opAdd, VS.opEq, VS.opNe, VS.opIs, VS.opIsNot, VS.isNonT, VS.opIx, VS.subT, VS.datV, VS.ms, VS.noVw, VS.arT, VS.arTs, VS.okM, VS.putM, VS.unM, VS.valsA, VS.argsOut, VS.gNm, VS.gTp, VS.gEach, VS.kidsT, VS.tyT, VS.isTy, VS.bLen, VS.seqN, VS.seqD, VS.bList, VS.bRepr, VS.inR, VS.bSum2, VS.pTi, VS.bIndex, VS.bCount, VS.isLi, VS.opRg, VS.sh_int, VS.sh_bl, VS.sh_str, VS.sh_non, VS.eqv_int, VS.eqv_bl, VS.eqv_str, List.getElem?_cons_zero, List.getElem?_cons_succ, List.length_cons, List.length_nil, List.set_cons_zero, List.set_cons_succ, List.replicate_succ, List.replicate_zero, List.cons_append, List.nil_append, List.map_cons, List.map_nil, Option.map_some, Option.map_none, Option.bind_some, Option.bind_none, if_true, if_false, Bool.true_and, Bool.and_true, Bool.false_and, Bool.and_false, Bool.or_true, Bool.true_or, Bool.false_or, Bool.or_false, List.isEmpty_nil, List.isEmpty_cons, List.nodup_nil, decide_true, Bool.false_eq_true, true_and, and_true, Nat.zero_add, Nat.reduceAdd, Nat.reduceSub, Nat.reduceLT, Option.bind_eq_bind, Option.pure_def]
          exact ⟨a9, b9, some t, r9, by omega, fun t' h => by cases h; omega, rfl⟩
        · rintro e ⟨a10, b10, tot, g0, g1, gt, rfl⟩
          simp only [toDs_map, toDs_ints, allDat_map, allDat_ints, eqv_ints, sh_ints, sh_nil, eqv_nil, sz_0, sz_1, sz_2, sz_3, sz_4, sz_5, sz_6, sz_7, sz_8, sz_9, sz_10, sz_11, sz_12, sz_13, sz_14, sz_15, sz_16, sz_17, sz_18, sz_19, sz_20, sz_21, sz_22, sz_23, sz_24, sz_25, sz_26, sz_27, sz_28, sz_29, sz_30, sz_31, sz_32, sz_33, sz_34, sz_35, sz_36, sz_37, sz_38, sz_39, sz_40, decide_eq_true_eq, Int.reduceLT, Int.reduceLE, Nat.reduceLeDiff, feedT, nd_one, at2_0, at2_1, at3_0, at3_1, at3_2, ix3_1, ix3_2, set3_1, set3_2, ↓VS.w_var, ↓VS.w_mv, ↓VS.w_c, ↓VS.w_2, ↓VS.w_and, ↓VS.w_or, ↓VS.w_not, ↓VS.w_if, ↓VS.w_ch, ↓VS.w_neg, ↓VS.w_fz, ↓VS.w_nil, ↓VS.w_cons, ↓VS.w_amut, ↓VS.w_disp, ↓VS.w_b, ↓VS.w_isi, ↓VS.w_call, ↓VS.w_rev, ↓VS.w_sl, ↓VS.w_mut, ↓VS.w_snil, ↓VS.w_seq, ↓VS.w_set, ↓VS.w_ret, ↓VS.w_expr, ↓VS.w_ifs, ↓VS.w_asg, ↓VS.w_sto, ↓VS.w_for, ↓VS.w_iof, ↓VS.w_rng, ↓VS.w_isx, ↓VS.w_efn, ↓VS.w_try, ↓VS.w_raise, ↓VS.w_m, ↓VS.w_callV, ↓VS.w_comp, ↓VS.w_yes, ↓VS.wO_some, ↓VS.wO_none, ↓VS.wO_map, ↓VS.wO_ite, VS.kMv, VS.k2b, VS.k2, VS.kQ, VS.kAnd, VS.kOr, VS.kNot, VS.kIf, VS.kChc, VS.kChb, VS.kCh, VS.kNeg, VS.frzV, VS.kFz, VS.kConsB, VS.kCons, VS.kMutA, VS.kUn, VS.kDisp, VS.kB, VS.kIsi, VS.kFo, VS.kCall, VS.kRev, VS.kPartB, VS.kPart, VS.kSlc, VS.kSlb, VS.kSl, VS.kMutT, VS.kMutR, VS.kSeq, VS.kSet, VS.kRet, VS.kExpr, VS.kIfS, VS.kAsg, VS.kStoT, VS.kStoI, VS.kSto, VS.kFor, VS.kOf, VS.kRng, VS.kFn, VS.kCompQ, VS.kComp, VS.kIsx, VS.kTry, VS.exName, VS.kM, VS.kMb, VS.kCv, VS.frz, VS.on1, VS.on2, VS.oErr, VS.opSl, VS.opRev, VS.isL, VS.isDc, VS.moAppend, VS.stL, VS.keeps, VS.keep, VS.mkTup, VS.allDat, VS.mkV, VS.pD, VS.pL, VS.pTu, VS.pI, VS.pB, VS.PV.tr, VS.PV.held, VS.toD, VS.toDs, VS.elems, VS.telems, VS.opI, VS.opB, VS.opAdd, VS.opEq, VS.opNe, VS.opIs, VS.opIsNot, VS.isNonT, VS.opIx, VS.subT, VS.datV, VS.ms, VS.noVw, VS.arT, VS.arTs, VS.okM, VS.putM, VS.unM, VS.valsA, VS.argsOut, VS.gNm, VS.gTp, VS.gEach, VS.kidsT, VS.tyT, VS.isTy, VS.bLen, VS.seqN, VS.seqD, VS.bList, VS.bRepr, VS.inR, VS.bSum2, VS.pTi, VS.bIndex, VS.bCount, VS.isLi, VS.opRg, VS.sh_int, VS.sh_bl, VS.sh_str, VS.sh_non, VS.eqv_int, VS.eqv_bl, VS.eqv_str, List.getElem?_cons_zero, List.getElem?_cons_succ, List.length_cons, List.length_nil, List.set_cons_zero, List.set_cons_succ, List.replicate_succ, List.replicate_zero, List.cons_append, List.nil_append, List.map_cons, List.map_nil, Option.map_some, Option.map_none, Option.bind_some, Option.bind_none, if_true, if_false, Bool.true_and, Bool.and_true, Bool.false_and, Bool.and_false, Bool.or_true, Bool.true_or, Bool.false_or, Bool.or_false, List.isEmpty_nil, List.isEmpty_cons, List.nodup_nil, decide_true, Bool.false_eq_true, true_and, and_true, Nat.zero_add, Nat.reduceAdd, Nat.reduceSub, Nat.reduceLT, Option.bind_eq_bind, Option.pure_def]
          exact hQ ns mn low high tot a10 b10 ⟨kl, k3, by omega, lh, hl, by omega, by omega, gt⟩ g0 g1
    cases q with
    | true =>
      obtain ⟨z1, z2⟩ := k4 rfl
      simp only [wipeE, restE, List.getD_cons_zero, List.getD_cons_succ, toDs_map, toDs_ints, allDat_map, allDat_ints, eqv_ints, sh_ints, sh_nil, eqv_nil, sz_0, sz_1, sz_2, sz_3, sz_4, sz_5, sz_6, sz_7, sz_8, sz_9, sz_10, sz_11, sz_12, sz_13, sz_14, sz_15, sz_16, sz_17, sz_18, sz_19, sz_20, sz_21, sz_22, sz_23, sz_24, sz_25, sz_26, sz_27, sz_28, sz_29, sz_30, sz_31, sz_32, sz_33, sz_34, sz_35, sz_36, sz_37, sz_38, sz_39, sz_40, decide_eq_true_eq, Int.reduceLT, Int.reduceLE, Nat.reduceLeDiff, feedT, nd_one, at2_0, at2_1, at3_0, at3_1, at3_2, ix3_1, ix3_2, set3_1, set3_2, ↓VS.w_var, ↓VS.w_mv, ↓VS.w_c, ↓VS.w_2, ↓VS.w_and, ↓VS.w_or, ↓VS.w_not, ↓VS.w_if, ↓VS.w_ch, ↓VS.w_neg, ↓VS.w_fz, ↓VS.w_nil, ↓VS.w_cons, ↓VS.w_amut, ↓VS.w_disp, ↓VS.w_b, ↓VS.w_isi, ↓VS.w_call, ↓VS.w_rev, ↓VS.w_sl, ↓VS.w_mut, ↓VS.w_snil, ↓VS.w_seq, ↓VS.w_set, ↓VS.w_ret, ↓VS.w_expr, ↓VS.w_asg, ↓VS.w_sto, ↓VS.w_for, ↓VS.w_iof, ↓VS.w_rng, ↓VS.w_isx, ↓VS.w_efn, ↓VS.w_try, ↓VS.w_raise, ↓VS.w_m, ↓VS.w_callV, ↓VS.w_comp, ↓VS.w_yes, ↓VS.wO_some, ↓VS.wO_none, ↓VS.wO_map, ↓VS.wO_ite, VS.kMv, VS.k2b, VS.k2, VS.kQ, VS.kAnd, VS.kOr, VS.kNot, VS.kIf, VS.kChc, VS.kChb, VS.kCh, VS.kNeg, VS.frzV, VS.kFz, VS.kConsB, VS.kCons, VS.kMutA, VS.kUn, VS.kDisp, VS.kB, VS.kIsi, VS.kFo, VS.kCall, VS.kRev, VS.kPartB, VS.kPart, VS.kSlc, VS.kSlb, VS.kSl, VS.kMutT, VS.kMutR, VS.kSeq, VS.kSet, VS.kRet, VS.kExpr, VS.kIfS, VS.kAsg, VS.kStoT, VS.kStoI, VS.kSto, VS.kFor, VS.kOf, VS.kRng, VS.kFn, VS.kCompQ, VS.kComp, VS.kIsx, VS.kTry, VS.exName, VS.kM, VS.kMb, VS.kCv, VS.frz, VS.on1, VS.on2, VS.oErr, VS.opSl, VS.opRev, VS.isL, VS.isDc, VS.moAppend, VS.stL, VS.keeps, VS.keep, VS.mkTup, VS.allDat, VS.mkV, VS.pD, VS.pL, VS.pTu, VS.pI, VS.pB, VS.PV.tr, VS.PV.held, VS.toD, VS.toDs, VS.elems, VS.telems, VS.opI, VS.opB, VS.opAdd, VS.opEq, VS.opNe, VS.opIs, VS.opIsNot, VS.isNonT, VS.opIx, VS.subT, VS.datV, VS.ms, VS.noVw, VS.arT, VS.arTs, VS.okM, VS.putM, VS.unM, VS.valsA, VS.argsOut, VS.gNm, VS.gTp, VS.gEach, VS.kidsT, VS.tyT, VS.isTy, VS.bLen, VS.seqN, VS.seqD, VS.bList, VS.bRepr, VS.inR, VS.bSum2, VS.pTi, VS.bIndex, VS.bCount, VS.isLi, VS.opRg, VS.sh_int, VS.sh_bl, VS.sh_str, VS.sh_non, VS.eqv_int, VS.eqv_bl, VS.eqv_str, List.getElem?_cons_zero, List.getElem?_cons_succ, List.length_cons, List.length_nil, List.set_cons_zero, List.set_cons_succ, List.replicate_succ, List.replicate_zero, List.cons_append, List.nil_append, List.map_cons, List.map_nil, Option.map_some, Option.map_none, Option.bind_some, Option.bind_none, if_true, if_false, Bool.true_and, Bool.and_true, Bool.false_and, Bool.and_false, Bool.or_true, Bool.true_or, Bool.false_or, Bool.or_false, List.isEmpty_nil, List.isEmpty_cons, List.nodup_nil, decide_true, Bool.false_eq_true, true_and, and_true, Nat.zero_add, Nat.reduceAdd, Nat.reduceSub, Nat.reduceLT, Option.bind_eq_bind, Option.pure_def]
      have f := fin _ _ z1.symm z2.symm
      simp only [toDs_map, toDs_ints, allDat_map, allDat_ints, eqv_ints, sh_ints, sh_nil, eqv_nil, sz_0, sz_1, sz_2, sz_3, sz_4, sz_5, sz_6, sz_7, sz_8, sz_9, sz_10, sz_11, sz_12, sz_13, sz_14, sz_15, sz_16, sz_17, sz_18, sz_19, sz_20, sz_21, sz_22, sz_23, sz_24, sz_25, sz_26, sz_27, sz_28, sz_29, sz_30, sz_31, sz_32, sz_33, sz_34, sz_35, sz_36, sz_37, sz_38, sz_39, sz_40, decide_eq_true_eq, Int.reduceLT, Int.reduceLE, Nat.reduceLeDiff, feedT, nd_one, at2_0, at2_1, at3_0, at3_1, at3_2, ix3_1, ix3_2, set3_1, set3_2, ↓VS.w_var, ↓VS.w_mv, ↓VS.w_c, ↓VS.w_2, ↓VS.w_and, ↓VS.w_or, ↓VS.w_not, ↓VS.w_if, ↓VS.w_ch, ↓VS.w_neg, ↓VS.w_fz, ↓VS.w_nil, ↓VS.w_cons, ↓VS.w_amut, ↓VS.w_disp, ↓VS.w_b, ↓VS.w_isi, ↓VS.w_call, ↓VS.w_rev, ↓VS.w_sl, ↓VS.w_mut, ↓VS.w_snil, ↓VS.w_seq, ↓VS.w_set, ↓VS.w_ret, ↓VS.w_expr, ↓VS.w_asg, ↓VS.w_sto, ↓VS.w_for, ↓VS.w_iof, ↓VS.w_rng, ↓VS.w_isx, ↓VS.w_efn, ↓VS.w_try, ↓VS.w_raise, ↓VS.w_m, ↓VS.w_callV, ↓VS.w_comp, ↓VS.w_yes, ↓VS.wO_some, ↓VS.wO_none, ↓VS.wO_map, ↓VS.wO_ite, VS.kMv, VS.k2b, VS.k2, VS.kQ, VS.kAnd, VS.kOr, VS.kNot, VS.kIf, VS.kChc, VS.kChb, VS.kCh, VS.kNeg, VS.frzV, VS.kFz, VS.kConsB, VS.kCons, VS.kMutA, VS.kUn, VS.kDisp, VS.kB, VS.kIsi, VS.kFo, VS.kCall, VS.kRev, VS.kPartB, VS.kPart, VS.kSlc, VS.kSlb, VS.kSl, VS.kMutT, VS.kMutR, VS.kSeq, VS.kSet, VS.kRet, VS.kExpr, VS.kIfS, VS.kAsg, VS.kStoT, VS.kStoI, VS.kSto, VS.kFor, VS.kOf, VS.kRng, VS.kFn, VS.kCompQ, VS.kComp, VS.kIsx, VS.kTry, VS.exName, VS.kM, VS.kMb, VS.kCv, VS.frz, VS.on1, VS.on2, VS.oErr, VS.opSl, VS.opRev, VS.isL, VS.isDc, VS.moAppend, VS.stL, VS.keeps, VS.keep, VS.mkTup, VS.allDat, VS.mkV, VS.pD, VS.pL, VS.pTu, VS.pI, VS.pB, VS.PV.tr, VS.PV.held, VS.toD, VS.toDs, VS.elems, VS.telems, VS.opI, VS.opB, VS.opAdd, VS.opEq, VS.opNe, VS.opIs, VS.opIsNot, VS.isNonT, VS.opIx, VS.subT, VS.datV, VS.ms, VS.noVw, VS.arT, VS.arTs, VS.okM, VS.putM, VS.unM, VS.valsA, VS.argsOut, VS.gNm, VS.gTp, VS.gEach, VS.kidsT, VS.tyT, VS.isTy, VS.bLen, VS.seqN, VS.seqD, VS.bList, VS.bRepr, VS.inR, VS.bSum2, VS.pTi, VS.bIndex, VS.bCount, VS.isLi, VS.opRg, VS.sh_int, VS.sh_bl, VS.sh_str, VS.sh_non, VS.eqv_int, VS.eqv_bl, VS.eqv_str, List.getElem?_cons_zero, List.getElem?_cons_succ, List.length_cons, List.length_nil, List.set_cons_zero, List.set_cons_succ, List.replicate_succ, List.replicate_zero, List.cons_append, List.nil_append, List.map_cons, List.map_nil, Option.map_some, Option.map_none, Option.bind_some, Option.bind_none, if_true, if_false, Bool.true_and, Bool.and_true, Bool.false_and, Bool.and_false, Bool.or_true, Bool.true_or, Bool.false_or, Bool.or_false, List.isEmpty_nil, List.isEmpty_cons, List.nodup_nil, decide_true, Bool.false_eq_true, true_and, and_true, Nat.zero_add, Nat.reduceAdd, Nat.reduceSub, Nat.reduceLT, Option.bind_eq_bind, Option.pure_def] at f
      exact f
    | false =>
      simp only [wipeE, restE, List.getD_cons_zero, List.getD_cons_succ, toDs_map, toDs_ints, allDat_map, allDat_ints, eqv_ints, sh_ints, sh_nil, eqv_nil, sz_0, sz_1, sz_2, sz_3, sz_4, sz_5, sz_6, sz_7, sz_8, sz_9, sz_10, sz_11, sz_12, sz_13, sz_14, sz_15, sz_16, sz_17, sz_18, sz_19, sz_20, sz_21, sz_22, sz_23, sz_24, sz_25, sz_26, sz_27, sz_28, sz_29, sz_30, sz_31, sz_32, sz_33, sz_34, sz_35, sz_36, sz_37, sz_38, sz_39, sz_40, decide_eq_true_eq, Int.reduceLT, Int.reduceLE, Nat.reduceLeDiff, feedT, nd_one, at2_0, at2_1, at3_0, at3_1, at3_2, ix3_1, ix3_2, set3_1, set3_2, ↓VS.w_var, ↓VS.w_mv, ↓VS.w_c, ↓VS.w_2, ↓VS.w_and, ↓VS.w_or, ↓VS.w_not, ↓VS.w_if, ↓VS.w_ch, ↓VS.w_neg, ↓VS.w_fz, ↓VS.w_nil, ↓VS.w_cons, ↓VS.w_amut, ↓VS.w_disp, ↓VS.w_b, ↓VS.w_isi, ↓VS.w_call, ↓VS.w_rev, ↓VS.w_sl, ↓VS.w_mut, ↓VS.w_snil, ↓VS.w_seq, ↓VS.w_set, ↓VS.w_ret, ↓VS.w_expr, ↓VS.w_asg, ↓VS.w_sto, ↓VS.w_for, ↓VS.w_iof, ↓VS.w_rng, ↓VS.w_isx, ↓VS.w_efn, ↓VS.w_try, ↓VS.w_raise, ↓VS.w_m, ↓VS.w_callV, ↓VS.w_comp, ↓VS.w_yes, ↓VS.wO_some, ↓VS.wO_none, ↓VS.wO_map, ↓VS.wO_ite, VS.kMv, VS.k2b, VS.k2, VS.kQ, VS.kAnd, VS.kOr, VS.kNot, VS.kIf, VS.kChc, VS.kChb, VS.kCh, VS.kNeg, VS.frzV, VS.kFz, VS.kConsB, VS.kCons, VS.kMutA, VS.kUn, VS.kDisp, VS.kB, VS.kIsi, VS.kFo, VS.kCall, VS.kRev, VS.kPartB, VS.kPart, VS.kSlc, VS.kSlb, VS.kSl, VS.kMutT, VS.kMutR, VS.kSeq, VS.kSet, VS.kRet, VS.kExpr, VS.kIfS, VS.kAsg, VS.kStoT, VS.kStoI, VS.kSto, VS.kFor, VS.kOf, VS.kRng, VS.kFn, VS.kCompQ, VS.kComp, VS.kIsx, VS.kTry, VS.exName, VS.kM, VS.kMb, VS.kCv, VS.frz, VS.on1, VS.on2, VS.oErr, VS.opSl, VS.opRev, VS.isL, VS.isDc, VS.moAppend, VS.stL, VS.keeps, VS.keep, VS.mkTup, VS.allDat, VS.mkV, VS.pD, VS.pL, VS.pTu, VS.pI, VS.pB, VS.PV.tr, VS.PV.held, VS.toD, VS.toDs, VS.elems, VS.telems, VS.opI, VS.opB, VS.opAdd, VS.opEq, VS.opNe, VS.opIs, VS.opIsNot, VS.isNonT, VS.opIx, VS.subT, VS.datV, VS.ms, VS.noVw, VS.arT, VS.arTs, VS.okM, VS.putM, VS.unM, VS.valsA, VS.argsOut, VS.gNm, VS.gTp, VS.gEach, VS.kidsT, VS.tyT, VS.isTy, VS.bLen, VS.seqN, VS.seqD, VS.bList, VS.bRepr, VS.inR, VS.bSum2, VS.pTi, VS.bIndex, VS.bCount, VS.isLi, VS.opRg, VS.sh_int, VS.sh_bl, VS.sh_str, VS.sh_non, VS.eqv_int, VS.eqv_bl, VS.eqv_str, List.getElem?_cons_zero, List.getElem?_cons_succ, List.length_cons, List.length_nil, List.set_cons_zero, List.set_cons_succ, List.replicate_succ, List.replicate_zero, List.cons_append, List.nil_append, List.map_cons, List.map_nil, Option.map_some, Option.map_none, Option.bind_some, Option.bind_none, if_true, if_false, Bool.true_and, Bool.and_true, Bool.false_and, Bool.and_false, Bool.or_true, Bool.true_or, Bool.false_or, Bool.or_false, List.isEmpty_nil, List.isEmpty_cons, List.nodup_nil, decide_true, Bool.false_eq_true, true_and, and_true, Nat.zero_add, Nat.reduceAdd, Nat.reduceSub, Nat.reduceLT, Option.bind_eq_bind, Option.pure_def]
      have f := fin _ _ rfl rfl
      simp only [toDs_map, toDs_ints, allDat_map, allDat_ints, eqv_ints, sh_ints, sh_nil, eqv_nil, sz_0, sz_1, sz_2, sz_3, sz_4, sz_5, sz_6, sz_7, sz_8, sz_9, sz_10, sz_11, sz_12, sz_13, sz_14, sz_15, sz_16, sz_17, sz_18, sz_19, sz_20, sz_21, sz_22, sz_23, sz_24, sz_25, sz_26, sz_27, sz_28, sz_29, sz_30, sz_31, sz_32, sz_33, sz_34, sz_35, sz_36, sz_37, sz_38, sz_39, sz_40, decide_eq_true_eq, Int.reduceLT, Int.reduceLE, Nat.reduceLeDiff, feedT, nd_one, at2_0, at2_1, at3_0, at3_1, at3_2, ix3_1, ix3_2, set3_1, set3_2, ↓VS.w_var, ↓VS.w_mv, ↓VS.w_c, ↓VS.w_2, ↓VS.w_and, ↓VS.w_or, ↓VS.w_not, ↓VS.w_if, ↓VS.w_ch, ↓VS.w_neg, ↓VS.w_fz, ↓VS.w_nil, ↓VS.w_cons, ↓VS.w_amut, ↓VS.w_disp, ↓VS.w_b, ↓VS.w_isi, ↓VS.w_call, ↓VS.w_rev, ↓VS.w_sl, ↓VS.w_mut, ↓VS.w_snil, ↓VS.w_seq, ↓VS.w_set, ↓VS.w_ret, ↓VS.w_expr, ↓VS.w_asg, ↓VS.w_sto, ↓VS.w_for, ↓VS.w_iof, ↓VS.w_rng, ↓VS.w_isx, ↓VS.w_efn, ↓VS.w_try, ↓VS.w_raise, ↓VS.w_m, ↓VS.w_callV, ↓VS.w_comp, ↓VS.w_yes, ↓VS.wO_some, ↓VS.wO_none, ↓VS.wO_map, ↓VS.wO_ite, VS.kMv, VS.k2b, VS.k2, VS.kQ, VS.kAnd, VS.kOr, VS.kNot, VS.kIf, VS.kChc, VS.kChb, VS.kCh, VS.kNeg, VS.frzV, VS.kFz, VS.kConsB, VS.kCons, VS.kMutA, VS.kUn, VS.kDisp, VS.kB, VS.kIsi, VS.kFo, VS.kCall, VS.kRev, VS.kPartB, VS.kPart, VS.kSlc, VS.kSlb, VS.kSl, VS.kMutT, VS.kMutR, VS.kSeq, VS.kSet, VS.kRet, VS.kExpr, VS.kIfS, VS.kAsg, VS.kStoT, VS.kStoI, VS.kSto, VS.kFor, VS.kOf, VS.kRng, VS.kFn, VS.kCompQ, VS.kComp, VS.kIsx, VS.kTry, VS.exName, VS.kM, VS.kMb, VS.kCv, VS.frz, VS.on1, VS.on2, VS.oErr, VS.opSl, VS.opRev, VS.isL, VS.isDc, VS.moAppend, VS.stL, VS.keeps, VS.keep, VS.mkTup, VS.allDat, VS.mkV, VS.pD, VS.pL, VS.pTu, VS.pI, VS.pB, VS.PV.tr, VS.PV.held, VS.toD, VS.toDs, VS.elems, VS.telems, VS.opI, VS.opB, VS.opAdd, VS.opEq, VS.opNe, VS.opIs, VS.opIsNot, VS.isNonT, VS.opIx, VS.subT, VS.datV, VS.ms, VS.noVw, VS.arT, VS.arTs, VS.okM, VS.putM, VS.unM, VS.valsA, VS.argsOut, VS.gNm, VS.gTp, VS.gEach, VS.kidsT, VS.tyT, VS.isTy, VS.bLen, VS.seqN, VS.seqD, VS.bList, VS.bRepr, VS.inR, VS.bSum2, VS.pTi, VS.bIndex, VS.bCount, VS.isLi, VS.opRg, VS.sh_int, VS.sh_bl, VS.sh_str, VS.sh_non, VS.eqv_int, VS.eqv_bl, VS.eqv_str, List.getElem?_cons_zero, List.getElem?_cons_succ, List.length_cons, List.length_nil, List.set_cons_zero, List.set_cons_succ, List.replicate_succ, List.replicate_zero, List.cons_append, List.nil_append, List.map_cons, List.map_nil, Option.map_some, Option.map_none, Option.bind_some, Option.bind_none, if_true, if_false, Bool.true_and, Bool.and_true, Bool.false_and, Bool.and_false, Bool.or_true, Bool.true_or, Bool.false_or, Bool.or_false, List.isEmpty_nil, List.isEmpty_cons, List.nodup_nil, decide_true, Bool.false_eq_true, true_and, and_true, Nat.zero_add, Nat.reduceAdd, Nat.reduceSub, Nat.reduceLT, Option.bind_eq_bind, Option.pure_def] at f
      exact f
end k62

set_option Elab.async false
set_option linter.all false
set_option maxRecDepth 100000
set_option backward.isDefEq.respectTransparency false
set_option maxHeartbeats 4000000
namespace k62
open PySem PySem.Spec VS PM
theorem at_lastI {t : List Int} (h : t ≠ []) : L2.atI (t.map PyData.int) (-1) = some (.int (t.getLastD 0)) := by
  have hm : t.map PyData.int ≠ [] := by simpa using h
  rw [at_last hm, List.getLast_map]
  cases t with
  | nil => exact absurd rfl h
  | cons a r => simp [List.getLastD]
/-- the dealings, gone through -/
def okT (tot : Option Int) (t : List Int) : Bool := match tot with
  | none => true
  | some s => decide (t.sum = s)
def dealT (many : Nat) (low high : Int) (tot : Option Int) : List (List Int) := (allD low (high + 1 - low).toNat many).filter (okT tot)
theorem mem_dealT {many : Nat} {low high : Int} {tot : Option Int} {t : List Int} : t ∈ dealT many low high tot ↔ t.Pairwise (· ≤ ·) ∧ t.length = many ∧ (∀ v ∈ t, low ≤ v ∧ v ≤ high) ∧ ∀ s, tot = some s → t.sum = s := by
  unfold dealT
  rw [List.mem_filter, mem_allD]
  constructor
  · rintro ⟨⟨a, b, c⟩, d⟩
    refine ⟨a, b, fun v hv => by have := c v hv; omega, fun s hs => ?_⟩
    subst hs
    exact of_decide_eq_true d
  · rintro ⟨a, b, c, d⟩
    refine ⟨⟨a, b, fun v hv => by have := c v hv; omega⟩, ?_⟩
    cases tot with
    | none => rfl
    | some s => exact decide_eq_true (d s rfl)
theorem len_dealT {many : Nat} {low high : Int} {tot : Option Int} (hm : many ≤ 4) (hl : high ≤ low + 4) : (dealT many low high tot).length ≤ 625 := by
  refine Nat.le_trans (List.length_filter_le _ _) (Nat.le_trans (len_allD _ _ _) ?_)
  have h1 : (high + 1 - low).toNat ≤ 5 := by omega
  exact Nat.le_trans (Nat.pow_le_pow_left h1 many) (Nat.pow_le_pow_right (by decide) hm)
theorem e_dealings {many : Nat} {low high : Int} {tot : Option Int} {Q : Fo → Prop} (hm : many ≤ 4) (hlh : low ≤ high) (hl : high ≤ low + 4)
    (hQ : Q (.ret (.lst ((dealT many low high tot).map fun t => .dat (tupI t))) [.dat (.int many), .dat (.int low), .dat (.int high), .dat (oD tot)])) :
    WF F_law_e_dealings [.dat (.int many), .dat (.int low), .dat (.int high), .dat (oD tot)] Q := by
  unfold F_law_e_dealings
  rw [w_fn (by rfl)]
  unfold g_law_e_dealings
  have hn : (high + 1 - low).toNat ≤ 5 := by omega
  generalize hN : (high + 1 - low).toNat = n at hn
  have e0 : ([PyData.tuple []] : List D) = (allD low n 0).map tupI := rfl
  have small : ∀ j, j ≤ 4 → (allD low n j).length ≤ 625 := fun j hj => by
    refine Nat.le_trans (len_allD _ _ _) ?_
    exact Nat.le_trans (Nat.pow_le_pow_left hn j) (Nat.pow_le_pow_right (by decide) hj)
  simp only [e0, Int.toNat_natCast, toDs_map, toDs_ints, allDat_map, allDat_ints, eqv_ints, sh_ints, sh_nil, eqv_nil, sz_0, sz_1, sz_2, sz_3, sz_4, sz_5, sz_6, sz_7, sz_8, sz_9, sz_10, sz_11, sz_12, sz_13, sz_14, sz_15, sz_16, sz_17, sz_18, sz_19, sz_20, sz_21, sz_22, sz_23, sz_24, sz_25, sz_26, sz_27, sz_28, sz_29, sz_30, sz_31, sz_32, sz_33, sz_34, sz_35, sz_36, sz_37, sz_38, sz_39, sz_40, decide_eq_true_eq, Int.reduceLT, Int.reduceLE, Nat.reduceLeDiff, feedT, nd_one, at2_0, at2_1, at3_0, at3_1, at3_2, ix3_1, ix3_2, set3_1, set3_2, ↓VS.w_var, ↓VS.w_mv, ↓VS.w_c, ↓VS.w_2, ↓VS.w_and, ↓VS.w_or, ↓VS.w_not, ↓VS.w_if, ↓VS.w_ch, ↓VS.w_neg, ↓VS.w_fz, ↓VS.w_nil, ↓VS.w_cons, ↓VS.w_amut, ↓VS.w_disp, ↓VS.w_b, ↓VS.w_isi, ↓VS.w_call, ↓VS.w_rev, ↓VS.w_sl, ↓VS.w_mut, ↓VS.w_snil, ↓VS.w_seq, ↓VS.w_set, ↓VS.w_ret, ↓VS.w_expr, ↓VS.w_asg, ↓VS.w_sto, ↓VS.w_for, ↓VS.w_iof, ↓VS.w_rng, ↓VS.w_isx, ↓VS.w_efn, ↓VS.w_try, ↓VS.w_raise, ↓VS.w_m, ↓VS.w_callV, ↓VS.w_comp, ↓VS.w_yes, ↓VS.wO_some, ↓VS.wO_none, ↓VS.wO_map, ↓VS.wO_ite, VS.kMv, VS.k2b, VS.k2, VS.kQ, VS.kAnd, VS.kOr, VS.kNot, VS.kIf, VS.kChc, VS.kChb, VS.kCh, VS.kNeg, VS.frzV, VS.kFz, VS.kConsB, VS.kCons, VS.kMutA, VS.kUn, VS.kDisp, VS.kB, VS.kIsi, VS.kFo, VS.kCall, VS.kRev, VS.kPartB, VS.kPart, VS.kSlc, VS.kSlb, VS.kSl, VS.kMutT, VS.kMutR, VS.kSeq, VS.kSet, VS.kRet, VS.kExpr, VS.kIfS, VS.kAsg, VS.kStoT, VS.kStoI, VS.kSto, VS.kFor, VS.kOf, VS.kRng, VS.kFn, VS.kCompQ, VS.kComp, VS.kIsx, VS.kTry, VS.exName, VS.kM, VS.kMb, VS.kCv, VS.frz, VS.on1, VS.on2, VS.oErr, VS.opSl, VS.opRev, VS.isL, VS.isDc, VS.moAppend, VS.stL, VS.keeps, VS.keep, VS.mkTup, VS.allDat, VS.mkV, VS.pD, VS.pL, VS.pTu, VS.pI, VS.pB, VS.PV.tr, VS.PV.held, VS.toD, VS.toDs, VS.elems, VS.telems, VS.opI, VS.opB, VS.opAdd, VS.opEq, VS.opNe, VS.opIs, VS.opIsNot, VS.isNonT, VS.opIx, VS.subT, VS.datV, VS.ms, VS.noVw, VS.arT, VS.arTs, VS.okM, VS.putM, VS.unM, VS.valsA, VS.argsOut, VS.gNm, VS.gTp, VS.gEach, VS.kidsT, VS.tyT, VS.isTy, VS.bLen, VS.seqN, VS.seqD, VS.bList, VS.bRepr, VS.inR, VS.bSum2, VS.pTi, VS.bIndex, VS.bCount, VS.isLi, VS.opRg, VS.sh_int, VS.sh_bl, VS.sh_str, VS.sh_non, VS.eqv_int, VS.eqv_bl, VS.eqv_str, List.getElem?_cons_zero, List.getElem?_cons_succ, List.length_cons, List.length_nil, List.set_cons_zero, List.set_cons_succ, List.replicate_succ, List.replicate_zero, List.cons_append, List.nil_append, List.map_cons, List.map_nil, Option.map_some, Option.map_none, Option.bind_some, Option.bind_none, if_true, if_false, Bool.true_and, Bool.and_true, Bool.false_and, Bool.and_false, Bool.or_true, Bool.true_or, Bool.false_or, Bool.or_false, List.isEmpty_nil, List.isEmpty_cons, List.nodup_nil, decide_true, Bool.false_eq_true, true_and, and_true, Nat.zero_add, Nat.reduceAdd, Nat.reduceSub, Nat.reduceLT, Option.bind_eq_bind, Option.pure_def]
  refine w_inv (fun ds env => ∃ (j : Nat) (x5 x6 x7 : T), j + ds.length = many ∧ env = [.dat (.int many), .dat (.int low), .dat (.int high), .dat (oD tot), .dat (.list ((allD low n j).map tupI)), x5, x6, x7, .un] ∧ calmT x7 = true) ⟨0, .un, .un, .un, by rw [rng_len]; omega, rfl, rfl⟩ ?_ ?_
  · rintro d r env ⟨j, x5, x6, x7, hj, rfl, hc⟩
    rw [List.length_cons] at hj
    simp only [toDs_map, toDs_ints, allDat_map, allDat_ints, eqv_ints, sh_ints, sh_nil, eqv_nil, sz_0, sz_1, sz_2, sz_3, sz_4, sz_5, sz_6, sz_7, sz_8, sz_9, sz_10, sz_11, sz_12, sz_13, sz_14, sz_15, sz_16, sz_17, sz_18, sz_19, sz_20, sz_21, sz_22, sz_23, sz_24, sz_25, sz_26, sz_27, sz_28, sz_29, sz_30, sz_31, sz_32, sz_33, sz_34, sz_35, sz_36, sz_37, sz_38, sz_39, sz_40, decide_eq_true_eq, Int.reduceLT, Int.reduceLE, Nat.reduceLeDiff, feedT, nd_one, at2_0, at2_1, at3_0, at3_1, at3_2, ix3_1, ix3_2, set3_1, set3_2, ↓VS.w_var, ↓VS.w_mv, ↓VS.w_c, ↓VS.w_2, ↓VS.w_and, ↓VS.w_or, ↓VS.w_not, ↓VS.w_if, ↓VS.w_ch, ↓VS.w_neg, ↓VS.w_fz, ↓VS.w_nil, ↓VS.w_cons, ↓VS.w_amut, ↓VS.w_disp, ↓VS.w_b, ↓VS.w_isi, ↓VS.w_call, ↓VS.w_rev, ↓VS.w_sl, ↓VS.w_mut, ↓VS.w_snil, ↓VS.w_seq, ↓VS.w_set, ↓VS.w_ret, ↓VS.w_expr, ↓VS.w_asg, ↓VS.w_sto, ↓VS.w_for, ↓VS.w_iof, ↓VS.w_rng, ↓VS.w_isx, ↓VS.w_efn, ↓VS.w_try, ↓VS.w_raise, ↓VS.w_m, ↓VS.w_callV, ↓VS.w_comp, ↓VS.w_yes, ↓VS.wO_some, ↓VS.wO_none, ↓VS.wO_map, ↓VS.wO_ite, VS.kMv, VS.k2b, VS.k2, VS.kQ, VS.kAnd, VS.kOr, VS.kNot, VS.kIf, VS.kChc, VS.kChb, VS.kCh, VS.kNeg, VS.frzV, VS.kFz, VS.kConsB, VS.kCons, VS.kMutA, VS.kUn, VS.kDisp, VS.kB, VS.kIsi, VS.kFo, VS.kCall, VS.kRev, VS.kPartB, VS.kPart, VS.kSlc, VS.kSlb, VS.kSl, VS.kMutT, VS.kMutR, VS.kSeq, VS.kSet, VS.kRet, VS.kExpr, VS.kIfS, VS.kAsg, VS.kStoT, VS.kStoI, VS.kSto, VS.kFor, VS.kOf, VS.kRng, VS.kFn, VS.kCompQ, VS.kComp, VS.kIsx, VS.kTry, VS.exName, VS.kM, VS.kMb, VS.kCv, VS.frz, VS.on1, VS.on2, VS.oErr, VS.opSl, VS.opRev, VS.isL, VS.isDc, VS.moAppend, VS.stL, VS.keeps, VS.keep, VS.mkTup, VS.allDat, VS.mkV, VS.pD, VS.pL, VS.pTu, VS.pI, VS.pB, VS.PV.tr, VS.PV.held, VS.toD, VS.toDs, VS.elems, VS.telems, VS.opI, VS.opB, VS.opAdd, VS.opEq, VS.opNe, VS.opIs, VS.opIsNot, VS.isNonT, VS.opIx, VS.subT, VS.datV, VS.ms, VS.noVw, VS.arT, VS.arTs, VS.okM, VS.putM, VS.unM, VS.valsA, VS.argsOut, VS.gNm, VS.gTp, VS.gEach, VS.kidsT, VS.tyT, VS.isTy, VS.bLen, VS.seqN, VS.seqD, VS.bList, VS.bRepr, VS.inR, VS.bSum2, VS.pTi, VS.bIndex, VS.bCount, VS.isLi, VS.opRg, VS.sh_int, VS.sh_bl, VS.sh_str, VS.sh_non, VS.eqv_int, VS.eqv_bl, VS.eqv_str, List.getElem?_cons_zero, List.getElem?_cons_succ, List.length_cons, List.length_nil, List.set_cons_zero, List.set_cons_succ, List.replicate_succ, List.replicate_zero, List.cons_append, List.nil_append, List.map_cons, List.map_nil, Option.map_some, Option.map_none, Option.bind_some, Option.bind_none, if_true, if_false, Bool.true_and, Bool.and_true, Bool.false_and, Bool.and_false, Bool.or_true, Bool.true_or, Bool.false_or, Bool.or_false, List.isEmpty_nil, List.isEmpty_cons, List.nodup_nil, decide_true, Bool.false_eq_true, true_and, and_true, Nat.zero_add, Nat.reduceAdd, Nat.reduceSub, Nat.reduceLT, Option.bind_eq_bind, Option.pure_def]
    refine w_inv (fun ds env => ∃ (done left : List (List Int)) (x7 : T), done ++ left = allD low n j ∧ ds = left.map tupI ∧ env = [.dat (.int many), .dat (.int low), .dat (.int high), .dat (oD tot), .dat (.list ((allD low n j).map tupI)), .dat d, .lst ((done.flatMap (ext low n)).map fun t => .dat (tupI t)), x7, .un] ∧ calmT x7 = true) ⟨[], allD low n j, x7, rfl, rfl, rfl, hc⟩ ?_ ?_
    · rintro d' r' env ⟨done, left, x7, hd, hl', rfl, hc⟩
      cases left with
      | nil => cases hl'
      | cons t left =>
        cases hl'
        have rl : (rngD low n).length ≤ sizeLine := by rw [rng_len]; exact Nat.le_trans hn sz_5
        have ht : t.Pairwise (· ≤ ·) ∧ t.length = j ∧ ∀ v ∈ t, low ≤ v ∧ v < low + n := mem_allD.mp (by rw [← hd]; simp)
        have eR : rngD low n = ((List.range n).map fun i : Nat => low + (i : Int)).map .int := by unfold rngD; rw [List.map_map]; rfl
        have l1 : t.length + 1 ≤ sizeLine := by rw [ht.2.1, PySem.sizeLine_eq]; omega
        have ne1 : PyData.eqv (.tuple (t.map .int)) (.tuple []) = decide (t = []) := eqv_tnil t
        have sh1 : SeqAt.shaped (.tuple (t.map .int)) = true := sh_tupI t
        simp only [hN, rl, wipeE, calmT, List.getD_cons_zero, List.getD_cons_succ, List.all_cons, List.all_nil, eR, toDs_map, toDs_ints, allDat_map, allDat_ints, eqv_ints, sh_ints, sh_nil, eqv_nil, sz_0, sz_1, sz_2, sz_3, sz_4, sz_5, sz_6, sz_7, sz_8, sz_9, sz_10, sz_11, sz_12, sz_13, sz_14, sz_15, sz_16, sz_17, sz_18, sz_19, sz_20, sz_21, sz_22, sz_23, sz_24, sz_25, sz_26, sz_27, sz_28, sz_29, sz_30, sz_31, sz_32, sz_33, sz_34, sz_35, sz_36, sz_37, sz_38, sz_39, sz_40, decide_eq_true_eq, Int.reduceLT, Int.reduceLE, Nat.reduceLeDiff, feedT, nd_one, at2_0, at2_1, at3_0, at3_1, at3_2, ix3_1, ix3_2, set3_1, set3_2, ↓VS.w_var, ↓VS.w_mv, ↓VS.w_c, ↓VS.w_2, ↓VS.w_and, ↓VS.w_or, ↓VS.w_not, ↓VS.w_if, ↓VS.w_ch, ↓VS.w_neg, ↓VS.w_fz, ↓VS.w_nil, ↓VS.w_cons, ↓VS.w_amut, ↓VS.w_disp, ↓VS.w_b, ↓VS.w_isi, ↓VS.w_call, ↓VS.w_rev, ↓VS.w_sl, ↓VS.w_mut, ↓VS.w_snil, ↓VS.w_seq, ↓VS.w_set, ↓VS.w_ret, ↓VS.w_expr, ↓VS.w_asg, ↓VS.w_sto, ↓VS.w_for, ↓VS.w_iof, ↓VS.w_rng, ↓VS.w_isx, ↓VS.w_efn, ↓VS.w_try, ↓VS.w_raise, ↓VS.w_m, ↓VS.w_callV, ↓VS.w_comp, ↓VS.w_yes, ↓VS.wO_some, ↓VS.wO_none, ↓VS.wO_map, ↓VS.wO_ite, VS.kMv, VS.k2b, VS.k2, VS.kQ, VS.kAnd, VS.kOr, VS.kNot, VS.kIf, VS.kChc, VS.kChb, VS.kCh, VS.kNeg, VS.frzV, VS.kFz, VS.kConsB, VS.kCons, VS.kMutA, VS.kUn, VS.kDisp, VS.kB, VS.kIsi, VS.kFo, VS.kCall, VS.kRev, VS.kPartB, VS.kPart, VS.kSlc, VS.kSlb, VS.kSl, VS.kMutT, VS.kMutR, VS.kSeq, VS.kSet, VS.kRet, VS.kExpr, VS.kIfS, VS.kAsg, VS.kStoT, VS.kStoI, VS.kSto, VS.kFor, VS.kOf, VS.kRng, VS.kFn, VS.kCompQ, VS.kComp, VS.kIsx, VS.kTry, VS.exName, VS.kM, VS.kMb, VS.kCv, VS.frz, VS.on1, VS.on2, VS.oErr, VS.opSl, VS.opRev, VS.isL, VS.isDc, VS.moAppend, VS.stL, VS.keeps, VS.keep, VS.mkTup, VS.allDat, VS.mkV, VS.pD, VS.pL, VS.pTu, VS.pI, VS.pB, VS.PV.tr, VS.PV.held, VS.toD, VS.toDs, VS.elems, VS.telems, VS.opI, VS.opB, VS.opAdd, VS.opEq, VS.opNe, VS.opIs, VS.opIsNot, VS.isNonT, VS.opIx, VS.subT, VS.datV, VS.ms, VS.noVw, VS.arT, VS.arTs, VS.okM, VS.putM, VS.unM, VS.valsA, VS.argsOut, VS.gNm, VS.gTp, VS.gEach, VS.kidsT, VS.tyT, VS.isTy, VS.bLen, VS.seqN, VS.seqD, VS.bList, VS.bRepr, VS.inR, VS.bSum2, VS.pTi, VS.bIndex, VS.bCount, VS.isLi, VS.opRg, VS.sh_int, VS.sh_bl, VS.sh_str, VS.sh_non, VS.eqv_int, VS.eqv_bl, VS.eqv_str, List.getElem?_cons_zero, List.getElem?_cons_succ, List.length_cons, List.length_nil, List.set_cons_zero, List.set_cons_succ, List.replicate_succ, List.replicate_zero, List.cons_append, List.nil_append, List.map_cons, List.map_nil, Option.map_some, Option.map_none, Option.bind_some, Option.bind_none, if_true, if_false, Bool.true_and, Bool.and_true, Bool.false_and, Bool.and_false, Bool.or_true, Bool.true_or, Bool.false_or, Bool.or_false, List.isEmpty_nil, List.isEmpty_cons, List.nodup_nil, decide_true, Bool.false_eq_true, true_and, and_true, Nat.zero_add, Nat.reduceAdd, Nat.reduceSub, Nat.reduceLT, Option.bind_eq_bind, Option.pure_def]
        refine ⟨by rw [List.length_map, List.length_map, List.length_range]; exact Nat.le_trans hn sz_5, ?_⟩
        refine wc_enc PyData.int (okV t) (fun v => .dat (tupI (t ++ [v]))) rfl (fun v hv => ⟨_, rfl, rfl, ?_, fun _ => ?_⟩) ?_
        · by_cases z : t = []
          · have ne2 : PyData.eqv (.tuple (t.map .int)) (.tuple []) = true := by rw [ne1]; exact dq z
            have eo : okV t v = true := by unfold okV; rw [dq z]; rfl
            simp only [tupI, sh1, sh_tnil, ne2, eo, toDs_map, toDs_ints, allDat_map, allDat_ints, eqv_ints, sh_ints, sh_nil, eqv_nil, sz_0, sz_1, sz_2, sz_3, sz_4, sz_5, sz_6, sz_7, sz_8, sz_9, sz_10, sz_11, sz_12, sz_13, sz_14, sz_15, sz_16, sz_17, sz_18, sz_19, sz_20, sz_21, sz_22, sz_23, sz_24, sz_25, sz_26, sz_27, sz_28, sz_29, sz_30, sz_31, sz_32, sz_33, sz_34, sz_35, sz_36, sz_37, sz_38, sz_39, sz_40, decide_eq_true_eq, Int.reduceLT, Int.reduceLE, Nat.reduceLeDiff, feedT, nd_one, at2_0, at2_1, at3_0, at3_1, at3_2, ix3_1, ix3_2, set3_1, set3_2, ↓VS.w_var, ↓VS.w_mv, ↓VS.w_c, ↓VS.w_2, ↓VS.w_and, ↓VS.w_or, ↓VS.w_not, ↓VS.w_if, ↓VS.w_ch, ↓VS.w_neg, ↓VS.w_fz, ↓VS.w_nil, ↓VS.w_cons, ↓VS.w_amut, ↓VS.w_disp, ↓VS.w_b, ↓VS.w_isi, ↓VS.w_call, ↓VS.w_rev, ↓VS.w_sl, ↓VS.w_mut, ↓VS.w_snil, ↓VS.w_seq, ↓VS.w_set, ↓VS.w_ret, ↓VS.w_expr, ↓VS.w_ifs, ↓VS.w_asg, ↓VS.w_sto, ↓VS.w_for, ↓VS.w_iof, ↓VS.w_rng, ↓VS.w_isx, ↓VS.w_efn, ↓VS.w_try, ↓VS.w_raise, ↓VS.w_m, ↓VS.w_callV, ↓VS.w_comp, ↓VS.w_yes, ↓VS.wO_some, ↓VS.wO_none, ↓VS.wO_map, ↓VS.wO_ite, VS.kMv, VS.k2b, VS.k2, VS.kQ, VS.kAnd, VS.kOr, VS.kNot, VS.kIf, VS.kChc, VS.kChb, VS.kCh, VS.kNeg, VS.frzV, VS.kFz, VS.kConsB, VS.kCons, VS.kMutA, VS.kUn, VS.kDisp, VS.kB, VS.kIsi, VS.kFo, VS.kCall, VS.kRev, VS.kPartB, VS.kPart, VS.kSlc, VS.kSlb, VS.kSl, VS.kMutT, VS.kMutR, VS.kSeq, VS.kSet, VS.kRet, VS.kExpr, VS.kIfS, VS.kAsg, VS.kStoT, VS.kStoI, VS.kSto, VS.kFor, VS.kOf, VS.kRng, VS.kFn, VS.kCompQ, VS.kComp, VS.kIsx, VS.kTry, VS.exName, VS.kM, VS.kMb, VS.kCv, VS.frz, VS.on1, VS.on2, VS.oErr, VS.opSl, VS.opRev, VS.isL, VS.isDc, VS.moAppend, VS.stL, VS.keeps, VS.keep, VS.mkTup, VS.allDat, VS.mkV, VS.pD, VS.pL, VS.pTu, VS.pI, VS.pB, VS.PV.tr, VS.PV.held, VS.toD, VS.toDs, VS.elems, VS.telems, VS.opI, VS.opB, VS.opAdd, VS.opEq, VS.opNe, VS.opIs, VS.opIsNot, VS.isNonT, VS.opIx, VS.subT, VS.datV, VS.ms, VS.noVw, VS.arT, VS.arTs, VS.okM, VS.putM, VS.unM, VS.valsA, VS.argsOut, VS.gNm, VS.gTp, VS.gEach, VS.kidsT, VS.tyT, VS.isTy, VS.bLen, VS.seqN, VS.seqD, VS.bList, VS.bRepr, VS.inR, VS.bSum2, VS.pTi, VS.bIndex, VS.bCount, VS.isLi, VS.opRg, VS.sh_int, VS.sh_bl, VS.sh_str, VS.sh_non, VS.eqv_int, VS.eqv_bl, VS.eqv_str, List.getElem?_cons_zero, List.getElem?_cons_succ, List.length_cons, List.length_nil, List.set_cons_zero, List.set_cons_succ, List.replicate_succ, List.replicate_zero, List.cons_append, List.nil_append, List.map_cons, List.map_nil, Option.map_some, Option.map_none, Option.bind_some, Option.bind_none, if_true, if_false, Bool.true_and, Bool.and_true, Bool.false_and, Bool.and_false, Bool.or_true, Bool.true_or, Bool.false_or, Bool.or_false, List.isEmpty_nil, List.isEmpty_cons, List.nodup_nil, decide_true, Bool.false_eq_true, true_and, and_true, Nat.zero_add, Nat.reduceAdd, Nat.reduceSub, Nat.reduceLT, Option.bind_eq_bind, Option.pure_def]
            exact ⟨_, rfl, rfl⟩
          · have az := at_lastI z
            have eo : okV t v = decide (t.getLastD 0 ≤ v) := by unfold okV; rw [decide_eq_false z, Bool.false_or]
            have ne2 : PyData.eqv (.tuple (t.map .int)) (.tuple []) = false := by rw [ne1]; exact decide_eq_false z
            simp only [tupI, sh1, sh_tnil, ne2, az, eo, Int.reduceNeg, toDs_map, toDs_ints, allDat_map, allDat_ints, eqv_ints, sh_ints, sh_nil, eqv_nil, sz_0, sz_1, sz_2, sz_3, sz_4, sz_5, sz_6, sz_7, sz_8, sz_9, sz_10, sz_11, sz_12, sz_13, sz_14, sz_15, sz_16, sz_17, sz_18, sz_19, sz_20, sz_21, sz_22, sz_23, sz_24, sz_25, sz_26, sz_27, sz_28, sz_29, sz_30, sz_31, sz_32, sz_33, sz_34, sz_35, sz_36, sz_37, sz_38, sz_39, sz_40, decide_eq_true_eq, Int.reduceLT, Int.reduceLE, Nat.reduceLeDiff, feedT, nd_one, at2_0, at2_1, at3_0, at3_1, at3_2, ix3_1, ix3_2, set3_1, set3_2, ↓VS.w_var, ↓VS.w_mv, ↓VS.w_c, ↓VS.w_2, ↓VS.w_and, ↓VS.w_or, ↓VS.w_not, ↓VS.w_if, ↓VS.w_ch, ↓VS.w_neg, ↓VS.w_fz, ↓VS.w_nil, ↓VS.w_cons, ↓VS.w_amut, ↓VS.w_disp, ↓VS.w_b, ↓VS.w_isi, ↓VS.w_call, ↓VS.w_rev, ↓VS.w_sl, ↓VS.w_mut, ↓VS.w_snil, ↓VS.w_seq, ↓VS.w_set, ↓VS.w_ret, ↓VS.w_expr, ↓VS.w_ifs, ↓VS.w_asg, ↓VS.w_sto, ↓VS.w_for, ↓VS.w_iof, ↓VS.w_rng, ↓VS.w_isx, ↓VS.w_efn, ↓VS.w_try, ↓VS.w_raise, ↓VS.w_m, ↓VS.w_callV, ↓VS.w_comp, ↓VS.w_yes, ↓VS.wO_some, ↓VS.wO_none, ↓VS.wO_map, ↓VS.wO_ite, VS.kMv, VS.k2b, VS.k2, VS.kQ, VS.kAnd, VS.kOr, VS.kNot, VS.kIf, VS.kChc, VS.kChb, VS.kCh, VS.kNeg, VS.frzV, VS.kFz, VS.kConsB, VS.kCons, VS.kMutA, VS.kUn, VS.kDisp, VS.kB, VS.kIsi, VS.kFo, VS.kCall, VS.kRev, VS.kPartB, VS.kPart, VS.kSlc, VS.kSlb, VS.kSl, VS.kMutT, VS.kMutR, VS.kSeq, VS.kSet, VS.kRet, VS.kExpr, VS.kIfS, VS.kAsg, VS.kStoT, VS.kStoI, VS.kSto, VS.kFor, VS.kOf, VS.kRng, VS.kFn, VS.kCompQ, VS.kComp, VS.kIsx, VS.kTry, VS.exName, VS.kM, VS.kMb, VS.kCv, VS.frz, VS.on1, VS.on2, VS.oErr, VS.opSl, VS.opRev, VS.isL, VS.isDc, VS.moAppend, VS.stL, VS.keeps, VS.keep, VS.mkTup, VS.allDat, VS.mkV, VS.pD, VS.pL, VS.pTu, VS.pI, VS.pB, VS.PV.tr, VS.PV.held, VS.toD, VS.toDs, VS.elems, VS.telems, VS.opI, VS.opB, VS.opAdd, VS.opEq, VS.opNe, VS.opIs, VS.opIsNot, VS.isNonT, VS.opIx, VS.subT, VS.datV, VS.ms, VS.noVw, VS.arT, VS.arTs, VS.okM, VS.putM, VS.unM, VS.valsA, VS.argsOut, VS.gNm, VS.gTp, VS.gEach, VS.kidsT, VS.tyT, VS.isTy, VS.bLen, VS.seqN, VS.seqD, VS.bList, VS.bRepr, VS.inR, VS.bSum2, VS.pTi, VS.bIndex, VS.bCount, VS.isLi, VS.opRg, VS.sh_int, VS.sh_bl, VS.sh_str, VS.sh_non, VS.eqv_int, VS.eqv_bl, VS.eqv_str, List.getElem?_cons_zero, List.getElem?_cons_succ, List.length_cons, List.length_nil, List.set_cons_zero, List.set_cons_succ, List.replicate_succ, List.replicate_zero, List.cons_append, List.nil_append, List.map_cons, List.map_nil, Option.map_some, Option.map_none, Option.bind_some, Option.bind_none, if_true, if_false, Bool.true_and, Bool.and_true, Bool.false_and, Bool.and_false, Bool.or_true, Bool.true_or, Bool.false_or, Bool.or_false, List.isEmpty_nil, List.isEmpty_cons, List.nodup_nil, decide_true, Bool.false_eq_true, true_and, and_true, Nat.zero_add, Nat.reduceAdd, Nat.reduceSub, Nat.reduceLT, Option.bind_eq_bind, Option.pure_def]
            exact ⟨_, rfl, rfl⟩
        · have ea : t.map PyData.int ++ [PyData.int v] = (t ++ [v]).map .int := by simp
          simp only [tupI, List.length_map, l1, ea, toDs_map, toDs_ints, allDat_map, allDat_ints, eqv_ints, sh_ints, sh_nil, eqv_nil, sz_0, sz_1, sz_2, sz_3, sz_4, sz_5, sz_6, sz_7, sz_8, sz_9, sz_10, sz_11, sz_12, sz_13, sz_14, sz_15, sz_16, sz_17, sz_18, sz_19, sz_20, sz_21, sz_22, sz_23, sz_24, sz_25, sz_26, sz_27, sz_28, sz_29, sz_30, sz_31, sz_32, sz_33, sz_34, sz_35, sz_36, sz_37, sz_38, sz_39, sz_40, decide_eq_true_eq, Int.reduceLT, Int.reduceLE, Nat.reduceLeDiff, feedT, nd_one, at2_0, at2_1, at3_0, at3_1, at3_2, ix3_1, ix3_2, set3_1, set3_2, ↓VS.w_var, ↓VS.w_mv, ↓VS.w_c, ↓VS.w_2, ↓VS.w_and, ↓VS.w_or, ↓VS.w_not, ↓VS.w_if, ↓VS.w_ch, ↓VS.w_neg, ↓VS.w_fz, ↓VS.w_nil, ↓VS.w_cons, ↓VS.w_amut, ↓VS.w_disp, ↓VS.w_b, ↓VS.w_isi, ↓VS.w_call, ↓VS.w_rev, ↓VS.w_sl, ↓VS.w_mut, ↓VS.w_snil, ↓VS.w_seq, ↓VS.w_set, ↓VS.w_ret, ↓VS.w_expr, ↓VS.w_ifs, ↓VS.w_asg, ↓VS.w_sto, ↓VS.w_for, ↓VS.w_iof, ↓VS.w_rng, ↓VS.w_isx, ↓VS.w_efn, ↓VS.w_try, ↓VS.w_raise, ↓VS.w_m, ↓VS.w_callV, ↓VS.w_comp, ↓VS.w_yes, ↓VS.wO_some, ↓VS.wO_none, ↓VS.wO_map, ↓VS.wO_ite, VS.kMv, VS.k2b, VS.k2, VS.kQ, VS.kAnd, VS.kOr, VS.kNot, VS.kIf, VS.kChc, VS.kChb, VS.kCh, VS.kNeg, VS.frzV, VS.kFz, VS.kConsB, VS.kCons, VS.kMutA, VS.kUn, VS.kDisp, VS.kB, VS.kIsi, VS.kFo, VS.kCall, VS.kRev, VS.kPartB, VS.kPart, VS.kSlc, VS.kSlb, VS.kSl, VS.kMutT, VS.kMutR, VS.kSeq, VS.kSet, VS.kRet, VS.kExpr, VS.kIfS, VS.kAsg, VS.kStoT, VS.kStoI, VS.kSto, VS.kFor, VS.kOf, VS.kRng, VS.kFn, VS.kCompQ, VS.kComp, VS.kIsx, VS.kTry, VS.exName, VS.kM, VS.kMb, VS.kCv, VS.frz, VS.on1, VS.on2, VS.oErr, VS.opSl, VS.opRev, VS.isL, VS.isDc, VS.moAppend, VS.stL, VS.keeps, VS.keep, VS.mkTup, VS.allDat, VS.mkV, VS.pD, VS.pL, VS.pTu, VS.pI, VS.pB, VS.PV.tr, VS.PV.held, VS.toD, VS.toDs, VS.elems, VS.telems, VS.opI, VS.opB, VS.opAdd, VS.opEq, VS.opNe, VS.opIs, VS.opIsNot, VS.isNonT, VS.opIx, VS.subT, VS.datV, VS.ms, VS.noVw, VS.arT, VS.arTs, VS.okM, VS.putM, VS.unM, VS.valsA, VS.argsOut, VS.gNm, VS.gTp, VS.gEach, VS.kidsT, VS.tyT, VS.isTy, VS.bLen, VS.seqN, VS.seqD, VS.bList, VS.bRepr, VS.inR, VS.bSum2, VS.pTi, VS.bIndex, VS.bCount, VS.isLi, VS.opRg, VS.sh_int, VS.sh_bl, VS.sh_str, VS.sh_non, VS.eqv_int, VS.eqv_bl, VS.eqv_str, List.getElem?_cons_zero, List.getElem?_cons_succ, List.length_cons, List.length_nil, List.set_cons_zero, List.set_cons_succ, List.replicate_succ, List.replicate_zero, List.cons_append, List.nil_append, List.map_cons, List.map_nil, Option.map_some, Option.map_none, Option.bind_some, Option.bind_none, if_true, if_false, Bool.true_and, Bool.and_true, Bool.false_and, Bool.and_false, Bool.or_true, Bool.true_or, Bool.false_or, Bool.or_false, List.isEmpty_nil, List.isEmpty_cons, List.nodup_nil, decide_true, Bool.false_eq_true, true_and, and_true, Nat.zero_add, Nat.reduceAdd, Nat.reduceSub, Nat.reduceLT, Option.bind_eq_bind, Option.pure_def]
          exact ⟨_, rfl, rfl⟩
        have lq : ((done.flatMap (ext low n)).length + (ext low n t).length) ≤ sizeLine := by
          have q1 := len_flat (ext low n) 5 (fun x => Nat.le_trans (len_ext low n x) hn) done
          have q2 := len_ext low n t
          have q3 : done.length ≤ 625 := by
            have := small j (by omega)
            rw [← hd, List.length_append] at this
            omega
          rw [PySem.sizeLine_eq]; omega
        have ex : ((((List.range n).map fun i : Nat => low + (i : Int)).filter (okV t)).map fun v => T.dat (tupI (t ++ [v]))) = (ext low n t).map fun u => T.dat (tupI u) := by
          unfold ext; rw [List.map_map]; rfl
        rw [ex, List.nil_append]
        have td := toDs_of tupI (ext low n t)
        simp only [kCompQ, td, moExtend, List.length_map, lq, restE, List.getD_cons_zero, List.getD_cons_succ, toDs_map, toDs_ints, allDat_map, allDat_ints, eqv_ints, sh_ints, sh_nil, eqv_nil, sz_0, sz_1, sz_2, sz_3, sz_4, sz_5, sz_6, sz_7, sz_8, sz_9, sz_10, sz_11, sz_12, sz_13, sz_14, sz_15, sz_16, sz_17, sz_18, sz_19, sz_20, sz_21, sz_22, sz_23, sz_24, sz_25, sz_26, sz_27, sz_28, sz_29, sz_30, sz_31, sz_32, sz_33, sz_34, sz_35, sz_36, sz_37, sz_38, sz_39, sz_40, decide_eq_true_eq, Int.reduceLT, Int.reduceLE, Nat.reduceLeDiff, feedT, nd_one, at2_0, at2_1, at3_0, at3_1, at3_2, ix3_1, ix3_2, set3_1, set3_2, ↓VS.w_var, ↓VS.w_mv, ↓VS.w_c, ↓VS.w_2, ↓VS.w_and, ↓VS.w_or, ↓VS.w_not, ↓VS.w_if, ↓VS.w_ch, ↓VS.w_neg, ↓VS.w_fz, ↓VS.w_nil, ↓VS.w_cons, ↓VS.w_amut, ↓VS.w_disp, ↓VS.w_b, ↓VS.w_isi, ↓VS.w_call, ↓VS.w_rev, ↓VS.w_sl, ↓VS.w_mut, ↓VS.w_snil, ↓VS.w_seq, ↓VS.w_set, ↓VS.w_ret, ↓VS.w_expr, ↓VS.w_ifs, ↓VS.w_asg, ↓VS.w_sto, ↓VS.w_for, ↓VS.w_iof, ↓VS.w_rng, ↓VS.w_isx, ↓VS.w_efn, ↓VS.w_try, ↓VS.w_raise, ↓VS.w_m, ↓VS.w_callV, ↓VS.w_comp, ↓VS.w_yes, ↓VS.wO_some, ↓VS.wO_none, ↓VS.wO_map, ↓VS.wO_ite, VS.kMv, VS.k2b, VS.k2, VS.kQ, VS.kAnd, VS.kOr, VS.kNot, VS.kIf, VS.kChc, VS.kChb, VS.kCh, VS.kNeg, VS.frzV, VS.kFz, VS.kConsB, VS.kCons, VS.kMutA, VS.kUn, VS.kDisp, VS.kB, VS.kIsi, VS.kFo, VS.kCall, VS.kRev, VS.kPartB, VS.kPart, VS.kSlc, VS.kSlb, VS.kSl, VS.kMutT, VS.kMutR, VS.kSeq, VS.kSet, VS.kRet, VS.kExpr, VS.kIfS, VS.kAsg, VS.kStoT, VS.kStoI, VS.kSto, VS.kFor, VS.kOf, VS.kRng, VS.kFn, VS.kCompQ, VS.kComp, VS.kIsx, VS.kTry, VS.exName, VS.kM, VS.kMb, VS.kCv, VS.frz, VS.on1, VS.on2, VS.oErr, VS.opSl, VS.opRev, VS.isL, VS.isDc, VS.moAppend, VS.stL, VS.keeps, VS.keep, VS.mkTup, VS.allDat, VS.mkV, VS.pD, VS.pL, VS.pTu, VS.pI, VS.pB, VS.PV.tr, VS.PV.held, VS.toD, VS.toDs, VS.elems, VS.telems, VS.opI, VS.opB, VS.opAdd, VS.opEq, VS.opNe, VS.opIs, VS.opIsNot, VS.isNonT, VS.opIx, VS.subT, VS.datV, VS.ms, VS.noVw, VS.arT, VS.arTs, VS.okM, VS.putM, VS.unM, VS.valsA, VS.argsOut, VS.gNm, VS.gTp, VS.gEach, VS.kidsT, VS.tyT, VS.isTy, VS.bLen, VS.seqN, VS.seqD, VS.bList, VS.bRepr, VS.inR, VS.bSum2, VS.pTi, VS.bIndex, VS.bCount, VS.isLi, VS.opRg, VS.sh_int, VS.sh_bl, VS.sh_str, VS.sh_non, VS.eqv_int, VS.eqv_bl, VS.eqv_str, List.getElem?_cons_zero, List.getElem?_cons_succ, List.length_cons, List.length_nil, List.set_cons_zero, List.set_cons_succ, List.replicate_succ, List.replicate_zero, List.cons_append, List.nil_append, List.map_cons, List.map_nil, Option.map_some, Option.map_none, Option.bind_some, Option.bind_none, if_true, if_false, Bool.true_and, Bool.and_true, Bool.false_and, Bool.and_false, Bool.or_true, Bool.true_or, Bool.false_or, Bool.or_false, List.isEmpty_nil, List.isEmpty_cons, List.nodup_nil, decide_true, Bool.false_eq_true, true_and, and_true, Nat.zero_add, Nat.reduceAdd, Nat.reduceSub, Nat.reduceLT, Option.bind_eq_bind, Option.pure_def]
        have fm : (done ++ [t]).flatMap (ext low n) = done.flatMap (ext low n) ++ ext low n t := by simp [List.flatMap_append]
        refine ⟨done ++ [t], left, .dat (tupI t), by rw [List.append_assoc]; exact hd, rfl, ?_, rfl⟩
        rw [fm, List.map_append, List.map_map]
        rfl
    · rintro env ⟨done, left, x7, hd, hl', rfl, hc⟩
      have hz : left = [] := List.map_eq_nil_iff.mp hl'.symm
      subst hz
      rw [List.append_nil] at hd
      subst hd
      have td := toDs_of tupI ((allD low n j).flatMap (ext low n))
      simp only [td, toDs_map, toDs_ints, allDat_map, allDat_ints, eqv_ints, sh_ints, sh_nil, eqv_nil, sz_0, sz_1, sz_2, sz_3, sz_4, sz_5, sz_6, sz_7, sz_8, sz_9, sz_10, sz_11, sz_12, sz_13, sz_14, sz_15, sz_16, sz_17, sz_18, sz_19, sz_20, sz_21, sz_22, sz_23, sz_24, sz_25, sz_26, sz_27, sz_28, sz_29, sz_30, sz_31, sz_32, sz_33, sz_34, sz_35, sz_36, sz_37, sz_38, sz_39, sz_40, decide_eq_true_eq, Int.reduceLT, Int.reduceLE, Nat.reduceLeDiff, feedT, nd_one, at2_0, at2_1, at3_0, at3_1, at3_2, ix3_1, ix3_2, set3_1, set3_2, ↓VS.w_var, ↓VS.w_mv, ↓VS.w_c, ↓VS.w_2, ↓VS.w_and, ↓VS.w_or, ↓VS.w_not, ↓VS.w_if, ↓VS.w_ch, ↓VS.w_neg, ↓VS.w_fz, ↓VS.w_nil, ↓VS.w_cons, ↓VS.w_amut, ↓VS.w_disp, ↓VS.w_b, ↓VS.w_isi, ↓VS.w_call, ↓VS.w_rev, ↓VS.w_sl, ↓VS.w_mut, ↓VS.w_snil, ↓VS.w_seq, ↓VS.w_set, ↓VS.w_ret, ↓VS.w_expr, ↓VS.w_ifs, ↓VS.w_asg, ↓VS.w_sto, ↓VS.w_for, ↓VS.w_iof, ↓VS.w_rng, ↓VS.w_isx, ↓VS.w_efn, ↓VS.w_try, ↓VS.w_raise, ↓VS.w_m, ↓VS.w_callV, ↓VS.w_comp, ↓VS.w_yes, ↓VS.wO_some, ↓VS.wO_none, ↓VS.wO_map, ↓VS.wO_ite, VS.kMv, VS.k2b, VS.k2, VS.kQ, VS.kAnd, VS.kOr, VS.kNot, VS.kIf, VS.kChc, VS.kChb, VS.kCh, VS.kNeg, VS.frzV, VS.kFz, VS.kConsB, VS.kCons, VS.kMutA, VS.kUn, VS.kDisp, VS.kB, VS.kIsi, VS.kFo, VS.kCall, VS.kRev, VS.kPartB, VS.kPart, VS.kSlc, VS.kSlb, VS.kSl, VS.kMutT, VS.kMutR, VS.kSeq, VS.kSet, VS.kRet, VS.kExpr, VS.kIfS, VS.kAsg, VS.kStoT, VS.kStoI, VS.kSto, VS.kFor, VS.kOf, VS.kRng, VS.kFn, VS.kCompQ, VS.kComp, VS.kIsx, VS.kTry, VS.exName, VS.kM, VS.kMb, VS.kCv, VS.frz, VS.on1, VS.on2, VS.oErr, VS.opSl, VS.opRev, VS.isL, VS.isDc, VS.moAppend, VS.stL, VS.keeps, VS.keep, VS.mkTup, VS.allDat, VS.mkV, VS.pD, VS.pL, VS.pTu, VS.pI, VS.pB, VS.PV.tr, VS.PV.held, VS.toD, VS.toDs, VS.elems, VS.telems, VS.opI, VS.opB, VS.opAdd, VS.opEq, VS.opNe, VS.opIs, VS.opIsNot, VS.isNonT, VS.opIx, VS.subT, VS.datV, VS.ms, VS.noVw, VS.arT, VS.arTs, VS.okM, VS.putM, VS.unM, VS.valsA, VS.argsOut, VS.gNm, VS.gTp, VS.gEach, VS.kidsT, VS.tyT, VS.isTy, VS.bLen, VS.seqN, VS.seqD, VS.bList, VS.bRepr, VS.inR, VS.bSum2, VS.pTi, VS.bIndex, VS.bCount, VS.isLi, VS.opRg, VS.sh_int, VS.sh_bl, VS.sh_str, VS.sh_non, VS.eqv_int, VS.eqv_bl, VS.eqv_str, List.getElem?_cons_zero, List.getElem?_cons_succ, List.length_cons, List.length_nil, List.set_cons_zero, List.set_cons_succ, List.replicate_succ, List.replicate_zero, List.cons_append, List.nil_append, List.map_cons, List.map_nil, Option.map_some, Option.map_none, Option.bind_some, Option.bind_none, if_true, if_false, Bool.true_and, Bool.and_true, Bool.false_and, Bool.and_false, Bool.or_true, Bool.true_or, Bool.false_or, Bool.or_false, List.isEmpty_nil, List.isEmpty_cons, List.nodup_nil, decide_true, Bool.false_eq_true, true_and, and_true, Nat.zero_add, Nat.reduceAdd, Nat.reduceSub, Nat.reduceLT, Option.bind_eq_bind, Option.pure_def]
      exact ⟨j + 1, _, _, _, by omega, rfl, hc⟩
  · rintro env ⟨j, x5, x6, x7, hj, rfl, hc⟩
    rw [List.length_nil, Nat.add_zero] at hj
    subst hj
    have rl : (allD low n j).length ≤ sizeLine := Nat.le_trans (small j hm) (by rw [PySem.sizeLine_eq]; omega)
    have calm := hc
    simp only [rl, calm, List.length_map, wipeE, List.getD_cons_zero, List.getD_cons_succ, List.all_cons, List.all_nil, toDs_map, toDs_ints, allDat_map, allDat_ints, eqv_ints, sh_ints, sh_nil, eqv_nil, sz_0, sz_1, sz_2, sz_3, sz_4, sz_5, sz_6, sz_7, sz_8, sz_9, sz_10, sz_11, sz_12, sz_13, sz_14, sz_15, sz_16, sz_17, sz_18, sz_19, sz_20, sz_21, sz_22, sz_23, sz_24, sz_25, sz_26, sz_27, sz_28, sz_29, sz_30, sz_31, sz_32, sz_33, sz_34, sz_35, sz_36, sz_37, sz_38, sz_39, sz_40, decide_eq_true_eq, Int.reduceLT, Int.reduceLE, Nat.reduceLeDiff, feedT, nd_one, at2_0, at2_1, at3_0, at3_1, at3_2, ix3_1, ix3_2, set3_1, set3_2, ↓VS.w_var, ↓VS.w_mv, ↓VS.w_c, ↓VS.w_2, ↓VS.w_and, ↓VS.w_or, ↓VS.w_not, ↓VS.w_if, ↓VS.w_ch, ↓VS.w_neg, ↓VS.w_fz, ↓VS.w_nil, ↓VS.w_cons, ↓VS.w_amut, ↓VS.w_disp, ↓VS.w_b, ↓VS.w_isi, ↓VS.w_call, ↓VS.w_rev, ↓VS.w_sl, ↓VS.w_mut, ↓VS.w_snil, ↓VS.w_seq, ↓VS.w_set, ↓VS.w_ret, ↓VS.w_expr, ↓VS.w_asg, ↓VS.w_sto, ↓VS.w_for, ↓VS.w_iof, ↓VS.w_rng, ↓VS.w_isx, ↓VS.w_efn, ↓VS.w_try, ↓VS.w_raise, ↓VS.w_m, ↓VS.w_callV, ↓VS.w_comp, ↓VS.w_yes, ↓VS.wO_some, ↓VS.wO_none, ↓VS.wO_map, ↓VS.wO_ite, VS.kMv, VS.k2b, VS.k2, VS.kQ, VS.kAnd, VS.kOr, VS.kNot, VS.kIf, VS.kChc, VS.kChb, VS.kCh, VS.kNeg, VS.frzV, VS.kFz, VS.kConsB, VS.kCons, VS.kMutA, VS.kUn, VS.kDisp, VS.kB, VS.kIsi, VS.kFo, VS.kCall, VS.kRev, VS.kPartB, VS.kPart, VS.kSlc, VS.kSlb, VS.kSl, VS.kMutT, VS.kMutR, VS.kSeq, VS.kSet, VS.kRet, VS.kExpr, VS.kIfS, VS.kAsg, VS.kStoT, VS.kStoI, VS.kSto, VS.kFor, VS.kOf, VS.kRng, VS.kFn, VS.kCompQ, VS.kComp, VS.kIsx, VS.kTry, VS.exName, VS.kM, VS.kMb, VS.kCv, VS.frz, VS.on1, VS.on2, VS.oErr, VS.opSl, VS.opRev, VS.isL, VS.isDc, VS.moAppend, VS.stL, VS.keeps, VS.keep, VS.mkTup, VS.allDat, VS.mkV, VS.pD, VS.pL, VS.pTu, VS.pI, VS.pB, VS.PV.tr, VS.PV.held, VS.toD, VS.toDs, VS.elems, VS.telems, VS.opI, VS.opB, VS.opAdd, VS.opEq, VS.opNe, VS.opIs, VS.opIsNot, VS.isNonT, VS.opIx, VS.subT, VS.datV, VS.ms, VS.noVw, VS.arT, VS.arTs, VS.okM, VS.putM, VS.unM, VS.valsA, VS.argsOut, VS.gNm, VS.gTp, VS.gEach, VS.kidsT, VS.tyT, VS.isTy, VS.bLen, VS.seqN, VS.seqD, VS.bList, VS.bRepr, VS.inR, VS.bSum2, VS.pTi, VS.bIndex, VS.bCount, VS.isLi, VS.opRg, VS.sh_int, VS.sh_bl, VS.sh_str, VS.sh_non, VS.eqv_int, VS.eqv_bl, VS.eqv_str, List.getElem?_cons_zero, List.getElem?_cons_succ, List.length_cons, List.length_nil, List.set_cons_zero, List.set_cons_succ, List.replicate_succ, List.replicate_zero, List.cons_append, List.nil_append, List.map_cons, List.map_nil, Option.map_some, Option.map_none, Option.bind_some, Option.bind_none, if_true, if_false, Bool.true_and, Bool.and_true, Bool.false_and, Bool.and_false, Bool.or_true, Bool.true_or, Bool.false_or, Bool.or_false, List.isEmpty_nil, List.isEmpty_cons, List.nodup_nil, decide_true, Bool.false_eq_true, true_and, and_true, Nat.zero_add, Nat.reduceAdd, Nat.reduceSub, Nat.reduceLT, Option.bind_eq_bind, Option.pure_def]
    refine wc_enc tupI (okT tot) (fun t => .dat (tupI t)) rfl (fun t ht => ⟨_, rfl, rfl, ?_, fun _ => ?_⟩) ?_
    · cases tot with
      | none => simp only [oD, toDs_map, toDs_ints, allDat_map, allDat_ints, eqv_ints, sh_ints, sh_nil, eqv_nil, sz_0, sz_1, sz_2, sz_3, sz_4, sz_5, sz_6, sz_7, sz_8, sz_9, sz_10, sz_11, sz_12, sz_13, sz_14, sz_15, sz_16, sz_17, sz_18, sz_19, sz_20, sz_21, sz_22, sz_23, sz_24, sz_25, sz_26, sz_27, sz_28, sz_29, sz_30, sz_31, sz_32, sz_33, sz_34, sz_35, sz_36, sz_37, sz_38, sz_39, sz_40, decide_eq_true_eq, Int.reduceLT, Int.reduceLE, Nat.reduceLeDiff, feedT, nd_one, at2_0, at2_1, at3_0, at3_1, at3_2, ix3_1, ix3_2, set3_1, set3_2, ↓VS.w_var, ↓VS.w_mv, ↓VS.w_c, ↓VS.w_2, ↓VS.w_and, ↓VS.w_or, ↓VS.w_not, ↓VS.w_if, ↓VS.w_ch, ↓VS.w_neg, ↓VS.w_fz, ↓VS.w_nil, ↓VS.w_cons, ↓VS.w_amut, ↓VS.w_disp, ↓VS.w_b, ↓VS.w_isi, ↓VS.w_call, ↓VS.w_rev, ↓VS.w_sl, ↓VS.w_mut, ↓VS.w_snil, ↓VS.w_seq, ↓VS.w_set, ↓VS.w_ret, ↓VS.w_expr, ↓VS.w_ifs, ↓VS.w_asg, ↓VS.w_sto, ↓VS.w_for, ↓VS.w_iof, ↓VS.w_rng, ↓VS.w_isx, ↓VS.w_efn, ↓VS.w_try, ↓VS.w_raise, ↓VS.w_m, ↓VS.w_callV, ↓VS.w_comp, ↓VS.w_yes, ↓VS.wO_some, ↓VS.wO_none, ↓VS.wO_map, ↓VS.wO_ite, VS.kMv, VS.k2b, VS.k2, VS.kQ, VS.kAnd, VS.kOr, VS.kNot, VS.kIf, VS.kChc, VS.kChb, VS.kCh, VS.kNeg, VS.frzV, VS.kFz, VS.kConsB, VS.kCons, VS.kMutA, VS.kUn, VS.kDisp, VS.kB, VS.kIsi, VS.kFo, VS.kCall, VS.kRev, VS.kPartB, VS.kPart, VS.kSlc, VS.kSlb, VS.kSl, VS.kMutT, VS.kMutR, VS.kSeq, VS.kSet, VS.kRet, VS.kExpr, VS.kIfS, VS.kAsg, VS.kStoT, VS.kStoI, VS.kSto, VS.kFor, VS.kOf, VS.kRng, VS.kFn, VS.kCompQ, VS.kComp, VS.kIsx, VS.kTry, VS.exName, VS.kM, VS.kMb, VS.kCv, VS.frz, VS.on1, VS.on2, VS.oErr, VS.opSl, VS.opRev, VS.isL, VS.isDc, VS.moAppend, VS.stL, VS.keeps, VS.keep, VS.mkTup, VS.allDat, VS.mkV, VS.pD, VS.pL, VS.pTu, VS.pI, VS.pB, VS.PV.tr, VS.PV.held, VS.toD, VS.toDs, VS.elems, VS.telems, VS.opI, VS.opB, VS.opAdd, VS.opEq, VS.opNe, VS.opIs, VS.opIsNot, VS.isNonT, VS.opIx, VS.subT, VS.datV, VS.ms, VS.noVw, VS.arT, VS.arTs, VS.okM, VS.putM, VS.unM, VS.valsA, VS.argsOut, VS.gNm, VS.gTp, VS.gEach, VS.kidsT, VS.tyT, VS.isTy, VS.bLen, VS.seqN, VS.seqD, VS.bList, VS.bRepr, VS.inR, VS.bSum2, VS.pTi, VS.bIndex, VS.bCount, VS.isLi, VS.opRg, VS.sh_int, VS.sh_bl, VS.sh_str, VS.sh_non, VS.eqv_int, VS.eqv_bl, VS.eqv_str, List.getElem?_cons_zero, List.getElem?_cons_succ, List.length_cons, List.length_nil, List.set_cons_zero, List.set_cons_succ, List.replicate_succ, List.replicate_zero, List.cons_append, List.nil_append, List.map_cons, List.map_nil, Option.map_some, Option.map_none, Option.bind_some, Option.bind_none, if_true, if_false, Bool.true_and, Bool.and_true, Bool.false_and, Bool.and_false, Bool.or_true, Bool.true_or, Bool.false_or, Bool.or_false, List.isEmpty_nil, List.isEmpty_cons, List.nodup_nil, decide_true, Bool.false_eq_true, true_and, and_true, Nat.zero_add, Nat.reduceAdd, Nat.reduceSub, Nat.reduceLT, Option.bind_eq_bind, Option.pure_def]; exact ⟨_, rfl, rfl⟩
      | some s =>
        have hT : pTi (.fr (.dat (tupI t))) = some t := by
          show (allI (t.map .int)) = some t
          exact allI_map t
        simp only [oD, toDs_map, toDs_ints, allDat_map, allDat_ints, eqv_ints, sh_ints, sh_nil, eqv_nil, sz_0, sz_1, sz_2, sz_3, sz_4, sz_5, sz_6, sz_7, sz_8, sz_9, sz_10, sz_11, sz_12, sz_13, sz_14, sz_15, sz_16, sz_17, sz_18, sz_19, sz_20, sz_21, sz_22, sz_23, sz_24, sz_25, sz_26, sz_27, sz_28, sz_29, sz_30, sz_31, sz_32, sz_33, sz_34, sz_35, sz_36, sz_37, sz_38, sz_39, sz_40, decide_eq_true_eq, Int.reduceLT, Int.reduceLE, Nat.reduceLeDiff, feedT, nd_one, at2_0, at2_1, at3_0, at3_1, at3_2, ix3_1, ix3_2, set3_1, set3_2, ↓VS.w_var, ↓VS.w_mv, ↓VS.w_c, ↓VS.w_2, ↓VS.w_and, ↓VS.w_or, ↓VS.w_not, ↓VS.w_if, ↓VS.w_ch, ↓VS.w_neg, ↓VS.w_fz, ↓VS.w_nil, ↓VS.w_cons, ↓VS.w_amut, ↓VS.w_disp, ↓VS.w_b, ↓VS.w_isi, ↓VS.w_call, ↓VS.w_rev, ↓VS.w_sl, ↓VS.w_mut, ↓VS.w_snil, ↓VS.w_seq, ↓VS.w_set, ↓VS.w_ret, ↓VS.w_expr, ↓VS.w_ifs, ↓VS.w_asg, ↓VS.w_sto, ↓VS.w_for, ↓VS.w_iof, ↓VS.w_rng, ↓VS.w_isx, ↓VS.w_efn, ↓VS.w_try, ↓VS.w_raise, ↓VS.w_m, ↓VS.w_callV, ↓VS.w_comp, ↓VS.w_yes, ↓VS.wO_some, ↓VS.wO_none, ↓VS.wO_map, ↓VS.wO_ite, VS.kMv, VS.k2b, VS.k2, VS.kQ, VS.kAnd, VS.kOr, VS.kNot, VS.kIf, VS.kChc, VS.kChb, VS.kCh, VS.kNeg, VS.frzV, VS.kFz, VS.kConsB, VS.kCons, VS.kMutA, VS.kUn, VS.kDisp, VS.kB, VS.kIsi, VS.kFo, VS.kCall, VS.kRev, VS.kPartB, VS.kPart, VS.kSlc, VS.kSlb, VS.kSl, VS.kMutT, VS.kMutR, VS.kSeq, VS.kSet, VS.kRet, VS.kExpr, VS.kIfS, VS.kAsg, VS.kStoT, VS.kStoI, VS.kSto, VS.kFor, VS.kOf, VS.kRng, VS.kFn, VS.kCompQ, VS.kComp, VS.kIsx, VS.kTry, VS.exName, VS.kM, VS.kMb, VS.kCv, VS.frz, VS.on1, VS.on2, VS.oErr, VS.opSl, VS.opRev, VS.isL, VS.isDc, VS.moAppend, VS.stL, VS.keeps, VS.keep, VS.mkTup, VS.allDat, VS.mkV, VS.pD, VS.pL, VS.pTu, VS.pI, VS.pB, VS.PV.tr, VS.PV.held, VS.toD, VS.toDs, VS.elems, VS.telems, VS.opI, VS.opB, VS.opAdd, VS.opEq, VS.opNe, VS.opIs, VS.opIsNot, VS.isNonT, VS.opIx, VS.subT, VS.datV, VS.ms, VS.noVw, VS.arT, VS.arTs, VS.okM, VS.putM, VS.unM, VS.valsA, VS.argsOut, VS.gNm, VS.gTp, VS.gEach, VS.kidsT, VS.tyT, VS.isTy, VS.bLen, VS.seqN, VS.seqD, VS.bList, VS.bRepr, VS.inR, VS.bSum2, VS.pTi, VS.bIndex, VS.bCount, VS.isLi, VS.opRg, VS.sh_int, VS.sh_bl, VS.sh_str, VS.sh_non, VS.eqv_int, VS.eqv_bl, VS.eqv_str, List.getElem?_cons_zero, List.getElem?_cons_succ, List.length_cons, List.length_nil, List.set_cons_zero, List.set_cons_succ, List.replicate_succ, List.replicate_zero, List.cons_append, List.nil_append, List.map_cons, List.map_nil, Option.map_some, Option.map_none, Option.bind_some, Option.bind_none, if_true, if_false, Bool.true_and, Bool.and_true, Bool.false_and, Bool.and_false, Bool.or_true, Bool.true_or, Bool.false_or, Bool.or_false, List.isEmpty_nil, List.isEmpty_cons, List.nodup_nil, decide_true, Bool.false_eq_true, true_and, and_true, Nat.zero_add, Nat.reduceAdd, Nat.reduceSub, Nat.reduceLT, Option.bind_eq_bind, Option.pure_def]
        simp only [tupI, allI_map, toDs_map, toDs_ints, allDat_map, allDat_ints, eqv_ints, sh_ints, sh_nil, eqv_nil, sz_0, sz_1, sz_2, sz_3, sz_4, sz_5, sz_6, sz_7, sz_8, sz_9, sz_10, sz_11, sz_12, sz_13, sz_14, sz_15, sz_16, sz_17, sz_18, sz_19, sz_20, sz_21, sz_22, sz_23, sz_24, sz_25, sz_26, sz_27, sz_28, sz_29, sz_30, sz_31, sz_32, sz_33, sz_34, sz_35, sz_36, sz_37, sz_38, sz_39, sz_40, decide_eq_true_eq, Int.reduceLT, Int.reduceLE, Nat.reduceLeDiff, feedT, nd_one, at2_0, at2_1, at3_0, at3_1, at3_2, ix3_1, ix3_2, set3_1, set3_2, ↓VS.w_var, ↓VS.w_mv, ↓VS.w_c, ↓VS.w_2, ↓VS.w_and, ↓VS.w_or, ↓VS.w_not, ↓VS.w_if, ↓VS.w_ch, ↓VS.w_neg, ↓VS.w_fz, ↓VS.w_nil, ↓VS.w_cons, ↓VS.w_amut, ↓VS.w_disp, ↓VS.w_b, ↓VS.w_isi, ↓VS.w_call, ↓VS.w_rev, ↓VS.w_sl, ↓VS.w_mut, ↓VS.w_snil, ↓VS.w_seq, ↓VS.w_set, ↓VS.w_ret, ↓VS.w_expr, ↓VS.w_ifs, ↓VS.w_asg, ↓VS.w_sto, ↓VS.w_for, ↓VS.w_iof, ↓VS.w_rng, ↓VS.w_isx, ↓VS.w_efn, ↓VS.w_try, ↓VS.w_raise, ↓VS.w_m, ↓VS.w_callV, ↓VS.w_comp, ↓VS.w_yes, ↓VS.wO_some, ↓VS.wO_none, ↓VS.wO_map, ↓VS.wO_ite, VS.kMv, VS.k2b, VS.k2, VS.kQ, VS.kAnd, VS.kOr, VS.kNot, VS.kIf, VS.kChc, VS.kChb, VS.kCh, VS.kNeg, VS.frzV, VS.kFz, VS.kConsB, VS.kCons, VS.kMutA, VS.kUn, VS.kDisp, VS.kB, VS.kIsi, VS.kFo, VS.kCall, VS.kRev, VS.kPartB, VS.kPart, VS.kSlc, VS.kSlb, VS.kSl, VS.kMutT, VS.kMutR, VS.kSeq, VS.kSet, VS.kRet, VS.kExpr, VS.kIfS, VS.kAsg, VS.kStoT, VS.kStoI, VS.kSto, VS.kFor, VS.kOf, VS.kRng, VS.kFn, VS.kCompQ, VS.kComp, VS.kIsx, VS.kTry, VS.exName, VS.kM, VS.kMb, VS.kCv, VS.frz, VS.on1, VS.on2, VS.oErr, VS.opSl, VS.opRev, VS.isL, VS.isDc, VS.moAppend, VS.stL, VS.keeps, VS.keep, VS.mkTup, VS.allDat, VS.mkV, VS.pD, VS.pL, VS.pTu, VS.pI, VS.pB, VS.PV.tr, VS.PV.held, VS.toD, VS.toDs, VS.elems, VS.telems, VS.opI, VS.opB, VS.opAdd, VS.opEq, VS.opNe, VS.opIs, VS.opIsNot, VS.isNonT, VS.opIx, VS.subT, VS.datV, VS.ms, VS.noVw, VS.arT, VS.arTs, VS.okM, VS.putM, VS.unM, VS.valsA, VS.argsOut, VS.gNm, VS.gTp, VS.gEach, VS.kidsT, VS.tyT, VS.isTy, VS.bLen, VS.seqN, VS.seqD, VS.bList, VS.bRepr, VS.inR, VS.bSum2, VS.pTi, VS.bIndex, VS.bCount, VS.isLi, VS.opRg, VS.sh_int, VS.sh_bl, VS.sh_str, VS.sh_non, VS.eqv_int, VS.eqv_bl, VS.eqv_str, List.getElem?_cons_zero, List.getElem?_cons_succ, List.length_cons, List.length_nil, List.set_cons_zero, List.set_cons_succ, List.replicate_succ, List.replicate_zero, List.cons_append, List.nil_append, List.map_cons, List.map_nil, Option.map_some, Option.map_none, Option.bind_some, Option.bind_none, if_true, if_false, Bool.true_and, Bool.and_true, Bool.false_and, Bool.and_false, Bool.or_true, Bool.true_or, Bool.false_or, Bool.or_false, List.isEmpty_nil, List.isEmpty_cons, List.nodup_nil, decide_true, Bool.false_eq_true, true_and, and_true, Nat.zero_add, Nat.reduceAdd, Nat.reduceSub, Nat.reduceLT, Option.bind_eq_bind, Option.pure_def]
        exact ⟨_, rfl, rfl⟩
    · simp only [toDs_map, toDs_ints, allDat_map, allDat_ints, eqv_ints, sh_ints, sh_nil, eqv_nil, sz_0, sz_1, sz_2, sz_3, sz_4, sz_5, sz_6, sz_7, sz_8, sz_9, sz_10, sz_11, sz_12, sz_13, sz_14, sz_15, sz_16, sz_17, sz_18, sz_19, sz_20, sz_21, sz_22, sz_23, sz_24, sz_25, sz_26, sz_27, sz_28, sz_29, sz_30, sz_31, sz_32, sz_33, sz_34, sz_35, sz_36, sz_37, sz_38, sz_39, sz_40, decide_eq_true_eq, Int.reduceLT, Int.reduceLE, Nat.reduceLeDiff, feedT, nd_one, at2_0, at2_1, at3_0, at3_1, at3_2, ix3_1, ix3_2, set3_1, set3_2, ↓VS.w_var, ↓VS.w_mv, ↓VS.w_c, ↓VS.w_2, ↓VS.w_and, ↓VS.w_or, ↓VS.w_not, ↓VS.w_if, ↓VS.w_ch, ↓VS.w_neg, ↓VS.w_fz, ↓VS.w_nil, ↓VS.w_cons, ↓VS.w_amut, ↓VS.w_disp, ↓VS.w_b, ↓VS.w_isi, ↓VS.w_call, ↓VS.w_rev, ↓VS.w_sl, ↓VS.w_mut, ↓VS.w_snil, ↓VS.w_seq, ↓VS.w_set, ↓VS.w_ret, ↓VS.w_expr, ↓VS.w_ifs, ↓VS.w_asg, ↓VS.w_sto, ↓VS.w_for, ↓VS.w_iof, ↓VS.w_rng, ↓VS.w_isx, ↓VS.w_efn, ↓VS.w_try, ↓VS.w_raise, ↓VS.w_m, ↓VS.w_callV, ↓VS.w_comp, ↓VS.w_yes, ↓VS.wO_some, ↓VS.wO_none, ↓VS.wO_map, ↓VS.wO_ite, VS.kMv, VS.k2b, VS.k2, VS.kQ, VS.kAnd, VS.kOr, VS.kNot, VS.kIf, VS.kChc, VS.kChb, VS.kCh, VS.kNeg, VS.frzV, VS.kFz, VS.kConsB, VS.kCons, VS.kMutA, VS.kUn, VS.kDisp, VS.kB, VS.kIsi, VS.kFo, VS.kCall, VS.kRev, VS.kPartB, VS.kPart, VS.kSlc, VS.kSlb, VS.kSl, VS.kMutT, VS.kMutR, VS.kSeq, VS.kSet, VS.kRet, VS.kExpr, VS.kIfS, VS.kAsg, VS.kStoT, VS.kStoI, VS.kSto, VS.kFor, VS.kOf, VS.kRng, VS.kFn, VS.kCompQ, VS.kComp, VS.kIsx, VS.kTry, VS.exName, VS.kM, VS.kMb, VS.kCv, VS.frz, VS.on1, VS.on2, VS.oErr, VS.opSl, VS.opRev, VS.isL, VS.isDc, VS.moAppend, VS.stL, VS.keeps, VS.keep, VS.mkTup, VS.allDat, VS.mkV, VS.pD, VS.pL, VS.pTu, VS.pI, VS.pB, VS.PV.tr, VS.PV.held, VS.toD, VS.toDs, VS.elems, VS.telems, VS.opI, VS.opB, VS.opAdd, VS.opEq, VS.opNe, VS.opIs, VS.opIsNot, VS.isNonT, VS.opIx, VS.subT, VS.datV, VS.ms, VS.noVw, VS.arT, VS.arTs, VS.okM, VS.putM, VS.unM, VS.valsA, VS.argsOut, VS.gNm, VS.gTp, VS.gEach, VS.kidsT, VS.tyT, VS.isTy, VS.bLen, VS.seqN, VS.seqD, VS.bList, VS.bRepr, VS.inR, VS.bSum2, VS.pTi, VS.bIndex, VS.bCount, VS.isLi, VS.opRg, VS.sh_int, VS.sh_bl, VS.sh_str, VS.sh_non, VS.eqv_int, VS.eqv_bl, VS.eqv_str, List.getElem?_cons_zero, List.getElem?_cons_succ, List.length_cons, List.length_nil, List.set_cons_zero, List.set_cons_succ, List.replicate_succ, List.replicate_zero, List.cons_append, List.nil_append, List.map_cons, List.map_nil, Option.map_some, Option.map_none, Option.bind_some, Option.bind_none, if_true, if_false, Bool.true_and, Bool.and_true, Bool.false_and, Bool.and_false, Bool.or_true, Bool.true_or, Bool.false_or, Bool.or_false, List.isEmpty_nil, List.isEmpty_cons, List.nodup_nil, decide_true, Bool.false_eq_true, true_and, and_true, Nat.zero_add, Nat.reduceAdd, Nat.reduceSub, Nat.reduceLT, Option.bind_eq_bind, Option.pure_def]
      exact ⟨_, rfl, rfl⟩
    rw [List.nil_append]
    simp only [kCompQ, restE, List.getD_cons_zero, List.getD_cons_succ, toDs_map, toDs_ints, allDat_map, allDat_ints, eqv_ints, sh_ints, sh_nil, eqv_nil, sz_0, sz_1, sz_2, sz_3, sz_4, sz_5, sz_6, sz_7, sz_8, sz_9, sz_10, sz_11, sz_12, sz_13, sz_14, sz_15, sz_16, sz_17, sz_18, sz_19, sz_20, sz_21, sz_22, sz_23, sz_24, sz_25, sz_26, sz_27, sz_28, sz_29, sz_30, sz_31, sz_32, sz_33, sz_34, sz_35, sz_36, sz_37, sz_38, sz_39, sz_40, decide_eq_true_eq, Int.reduceLT, Int.reduceLE, Nat.reduceLeDiff, feedT, nd_one, at2_0, at2_1, at3_0, at3_1, at3_2, ix3_1, ix3_2, set3_1, set3_2, ↓VS.w_var, ↓VS.w_mv, ↓VS.w_c, ↓VS.w_2, ↓VS.w_and, ↓VS.w_or, ↓VS.w_not, ↓VS.w_if, ↓VS.w_ch, ↓VS.w_neg, ↓VS.w_fz, ↓VS.w_nil, ↓VS.w_cons, ↓VS.w_amut, ↓VS.w_disp, ↓VS.w_b, ↓VS.w_isi, ↓VS.w_call, ↓VS.w_rev, ↓VS.w_sl, ↓VS.w_mut, ↓VS.w_snil, ↓VS.w_seq, ↓VS.w_set, ↓VS.w_ret, ↓VS.w_expr, ↓VS.w_ifs, ↓VS.w_asg, ↓VS.w_sto, ↓VS.w_for, ↓VS.w_iof, ↓VS.w_rng, ↓VS.w_isx, ↓VS.w_efn, ↓VS.w_try, ↓VS.w_raise, ↓VS.w_m, ↓VS.w_callV, ↓VS.w_comp, ↓VS.w_yes, ↓VS.wO_some, ↓VS.wO_none, ↓VS.wO_map, ↓VS.wO_ite, VS.kMv, VS.k2b, VS.k2, VS.kQ, VS.kAnd, VS.kOr, VS.kNot, VS.kIf, VS.kChc, VS.kChb, VS.kCh, VS.kNeg, VS.frzV, VS.kFz, VS.kConsB, VS.kCons, VS.kMutA, VS.kUn, VS.kDisp, VS.kB, VS.kIsi, VS.kFo, VS.kCall, VS.kRev, VS.kPartB, VS.kPart, VS.kSlc, VS.kSlb, VS.kSl, VS.kMutT, VS.kMutR, VS.kSeq, VS.kSet, VS.kRet, VS.kExpr, VS.kIfS, VS.kAsg, VS.kStoT, VS.kStoI, VS.kSto, VS.kFor, VS.kOf, VS.kRng, VS.kFn, VS.kCompQ, VS.kComp, VS.kIsx, VS.kTry, VS.exName, VS.kM, VS.kMb, VS.kCv, VS.frz, VS.on1, VS.on2, VS.oErr, VS.opSl, VS.opRev, VS.isL, VS.isDc, VS.moAppend, VS.stL, VS.keeps, VS.keep, VS.mkTup, VS.allDat, VS.mkV, VS.pD, VS.pL, VS.pTu, VS.pI, VS.pB, VS.PV.tr, VS.PV.held, VS.toD, VS.toDs, VS.elems, VS.telems, VS.opI, VS.opB, VS.opAdd, VS.opEq, VS.opNe, VS.opIs, VS.opIsNot, VS.isNonT, VS.opIx, VS.subT, VS.datV, VS.ms, VS.noVw, VS.arT, VS.arTs, VS.okM, VS.putM, VS.unM, VS.valsA, VS.argsOut, VS.gNm, VS.gTp, VS.gEach, VS.kidsT, VS.tyT, VS.isTy, VS.bLen, VS.seqN, VS.seqD, VS.bList, VS.bRepr, VS.inR, VS.bSum2, VS.pTi, VS.bIndex, VS.bCount, VS.isLi, VS.opRg, VS.sh_int, VS.sh_bl, VS.sh_str, VS.sh_non, VS.eqv_int, VS.eqv_bl, VS.eqv_str, List.getElem?_cons_zero, List.getElem?_cons_succ, List.length_cons, List.length_nil, List.set_cons_zero, List.set_cons_succ, List.replicate_succ, List.replicate_zero, List.cons_append, List.nil_append, List.map_cons, List.map_nil, Option.map_some, Option.map_none, Option.bind_some, Option.bind_none, if_true, if_false, Bool.true_and, Bool.and_true, Bool.false_and, Bool.and_false, Bool.or_true, Bool.true_or, Bool.false_or, Bool.or_false, List.isEmpty_nil, List.isEmpty_cons, List.nodup_nil, decide_true, Bool.false_eq_true, true_and, and_true, Nat.zero_add, Nat.reduceAdd, Nat.reduceSub, Nat.reduceLT, Option.bind_eq_bind, Option.pure_def]
    unfold dealT at hQ
    rw [hN] at hQ
    exact hQ
end k62

set_option Elab.async false
set_option linter.all false
set_option maxRecDepth 100000
set_option backward.isDefEq.respectTransparency false
set_option maxHeartbeats 4000000
namespace k62
open PySem PySem.Spec VS PM
/-- the total can be come to -/
def Can (many : Nat) (low high : Int) (tot : Option Int) : Prop := ∀ t, tot = some t → many * low ≤ t ∧ t ≤ many * high
theorem CaseS.ok {kept : List Int} {many : Nat} {low high : Int} {tot : Option Int} (c : CaseS kept many low high tot) (h : Can many low high tot) : Case kept many low high tot := by
  have h1 := c.kl
  have h2 := c.mb
  have h3 := c.lb
  have h4 := c.hb
  exact ⟨by omega, fun x hx => by have := c.kb x hx; omega, by omega, c.lh, by omega, by omega, h⟩
theorem CaseS.no {kept : List Int} {many : Nat} {low high : Int} {tot : Option Int} (c : CaseS kept many low high tot) (h : ¬ Can many low high tot) : ∃ t, tot = some t ∧ ¬ (many * low ≤ t ∧ t ≤ many * high) := by
  apply Classical.byContradiction
  intro k
  apply h
  intro t ht
  apply Classical.byContradiction
  intro z
  exact k ⟨t, ht, z⟩
theorem CaseS.cm {kept : List Int} {many : Nat} {low high : Int} {tot : Option Int} (c : CaseS kept many low high tot) : cMul (many : Int) low = true ∧ cMul (many : Int) high = true := by
  have h2 := c.mb
  have h3 := c.lb
  have h4 := c.hb
  have h5 := c.lh
  exact ⟨mul_ok (by omega) (by omega), mul_ok (by omega) (by omega)⟩
theorem e_meant_bad {kept : List Int} {many : Nat} {low high : Int} {tot : Option Int} {g : Bool} {Q : Fo → Prop} (c : CaseS kept many low high tot) (h : ¬ Can many low high tot)
    (hQ : Q (.exc (.own "NoDealing") [.dat (.int many), .dat (.int low), .dat (.int high), .un, .dat (.bool g)])) :
    WF F_meant [.dat (.int many), .dat (.int low), .dat (.int high), .dat (oD tot), .dat (.bool g)] Q := by
  unfold F_meant
  rw [w_fn (by rfl)]
  unfold g_meant
  obtain ⟨c1, c2⟩ := c.cm
  obtain ⟨t, rfl, ht⟩ := c.no h
  simp only [oD, c1, c2, toDs_map, toDs_ints, allDat_map, allDat_ints, eqv_ints, sh_ints, sh_nil, eqv_nil, sz_0, sz_1, sz_2, sz_3, sz_4, sz_5, sz_6, sz_7, sz_8, sz_9, sz_10, sz_11, sz_12, sz_13, sz_14, sz_15, sz_16, sz_17, sz_18, sz_19, sz_20, sz_21, sz_22, sz_23, sz_24, sz_25, sz_26, sz_27, sz_28, sz_29, sz_30, sz_31, sz_32, sz_33, sz_34, sz_35, sz_36, sz_37, sz_38, sz_39, sz_40, decide_eq_true_eq, Int.reduceLT, Int.reduceLE, Nat.reduceLeDiff, feedT, nd_one, at2_0, at2_1, at3_0, at3_1, at3_2, ix3_1, ix3_2, set3_1, set3_2, ↓VS.w_var, ↓VS.w_mv, ↓VS.w_c, ↓VS.w_2, ↓VS.w_and, ↓VS.w_or, ↓VS.w_not, ↓VS.w_if, ↓VS.w_ch, ↓VS.w_neg, ↓VS.w_fz, ↓VS.w_nil, ↓VS.w_cons, ↓VS.w_amut, ↓VS.w_disp, ↓VS.w_b, ↓VS.w_isi, ↓VS.w_call, ↓VS.w_rev, ↓VS.w_sl, ↓VS.w_mut, ↓VS.w_snil, ↓VS.w_seq, ↓VS.w_set, ↓VS.w_ret, ↓VS.w_expr, ↓VS.w_ifs, ↓VS.w_asg, ↓VS.w_sto, ↓VS.w_for, ↓VS.w_iof, ↓VS.w_rng, ↓VS.w_isx, ↓VS.w_efn, ↓VS.w_try, ↓VS.w_raise, ↓VS.w_m, ↓VS.w_callV, ↓VS.w_comp, ↓VS.w_yes, ↓VS.wO_some, ↓VS.wO_none, ↓VS.wO_map, ↓VS.wO_ite, VS.kMv, VS.k2b, VS.k2, VS.kQ, VS.kAnd, VS.kOr, VS.kNot, VS.kIf, VS.kChc, VS.kChb, VS.kCh, VS.kNeg, VS.frzV, VS.kFz, VS.kConsB, VS.kCons, VS.kMutA, VS.kUn, VS.kDisp, VS.kB, VS.kIsi, VS.kFo, VS.kCall, VS.kRev, VS.kPartB, VS.kPart, VS.kSlc, VS.kSlb, VS.kSl, VS.kMutT, VS.kMutR, VS.kSeq, VS.kSet, VS.kRet, VS.kExpr, VS.kIfS, VS.kAsg, VS.kStoT, VS.kStoI, VS.kSto, VS.kFor, VS.kOf, VS.kRng, VS.kFn, VS.kCompQ, VS.kComp, VS.kIsx, VS.kTry, VS.exName, VS.kM, VS.kMb, VS.kCv, VS.frz, VS.on1, VS.on2, VS.oErr, VS.opSl, VS.opRev, VS.isL, VS.isDc, VS.moAppend, VS.stL, VS.keeps, VS.keep, VS.mkTup, VS.allDat, VS.mkV, VS.pD, VS.pL, VS.pTu, VS.pI, VS.pB, VS.PV.tr, VS.PV.held, VS.toD, VS.toDs, VS.elems, VS.telems, VS.opI, VS.opB, VS.opAdd, VS.opEq, VS.opNe, VS.opIs, VS.opIsNot, VS.isNonT, VS.opIx, VS.subT, VS.datV, VS.ms, VS.noVw, VS.arT, VS.arTs, VS.okM, VS.putM, VS.unM, VS.valsA, VS.argsOut, VS.gNm, VS.gTp, VS.gEach, VS.kidsT, VS.tyT, VS.isTy, VS.bLen, VS.seqN, VS.seqD, VS.bList, VS.bRepr, VS.inR, VS.bSum2, VS.pTi, VS.bIndex, VS.bCount, VS.isLi, VS.opRg, VS.sh_int, VS.sh_bl, VS.sh_str, VS.sh_non, VS.eqv_int, VS.eqv_bl, VS.eqv_str, List.getElem?_cons_zero, List.getElem?_cons_succ, List.length_cons, List.length_nil, List.set_cons_zero, List.set_cons_succ, List.replicate_succ, List.replicate_zero, List.cons_append, List.nil_append, List.map_cons, List.map_nil, Option.map_some, Option.map_none, Option.bind_some, Option.bind_none, if_true, if_false, Bool.true_and, Bool.and_true, Bool.false_and, Bool.and_false, Bool.or_true, Bool.true_or, Bool.false_or, Bool.or_false, List.isEmpty_nil, List.isEmpty_cons, List.nodup_nil, decide_true, Bool.false_eq_true, true_and, and_true, Nat.zero_add, Nat.reduceAdd, Nat.reduceSub, Nat.reduceLT, Option.bind_eq_bind, Option.pure_def]
  by_cases k1 : (many : Int) * low ≤ t
  · have k2 : ¬ t ≤ many * high := fun z => ht ⟨k1, z⟩
    simp only [k1, k2, decide_false, Bool.not_false, toDs_map, toDs_ints, allDat_map, allDat_ints, eqv_ints, sh_ints, sh_nil, eqv_nil, sz_0, sz_1, sz_2, sz_3, sz_4, sz_5, sz_6, sz_7, sz_8, sz_9, sz_10, sz_11, sz_12, sz_13, sz_14, sz_15, sz_16, sz_17, sz_18, sz_19, sz_20, sz_21, sz_22, sz_23, sz_24, sz_25, sz_26, sz_27, sz_28, sz_29, sz_30, sz_31, sz_32, sz_33, sz_34, sz_35, sz_36, sz_37, sz_38, sz_39, sz_40, decide_eq_true_eq, Int.reduceLT, Int.reduceLE, Nat.reduceLeDiff, feedT, nd_one, at2_0, at2_1, at3_0, at3_1, at3_2, ix3_1, ix3_2, set3_1, set3_2, ↓VS.w_var, ↓VS.w_mv, ↓VS.w_c, ↓VS.w_2, ↓VS.w_and, ↓VS.w_or, ↓VS.w_not, ↓VS.w_if, ↓VS.w_ch, ↓VS.w_neg, ↓VS.w_fz, ↓VS.w_nil, ↓VS.w_cons, ↓VS.w_amut, ↓VS.w_disp, ↓VS.w_b, ↓VS.w_isi, ↓VS.w_call, ↓VS.w_rev, ↓VS.w_sl, ↓VS.w_mut, ↓VS.w_snil, ↓VS.w_seq, ↓VS.w_set, ↓VS.w_ret, ↓VS.w_expr, ↓VS.w_ifs, ↓VS.w_asg, ↓VS.w_sto, ↓VS.w_for, ↓VS.w_iof, ↓VS.w_rng, ↓VS.w_isx, ↓VS.w_efn, ↓VS.w_try, ↓VS.w_raise, ↓VS.w_m, ↓VS.w_callV, ↓VS.w_comp, ↓VS.w_yes, ↓VS.wO_some, ↓VS.wO_none, ↓VS.wO_map, ↓VS.wO_ite, VS.kMv, VS.k2b, VS.k2, VS.kQ, VS.kAnd, VS.kOr, VS.kNot, VS.kIf, VS.kChc, VS.kChb, VS.kCh, VS.kNeg, VS.frzV, VS.kFz, VS.kConsB, VS.kCons, VS.kMutA, VS.kUn, VS.kDisp, VS.kB, VS.kIsi, VS.kFo, VS.kCall, VS.kRev, VS.kPartB, VS.kPart, VS.kSlc, VS.kSlb, VS.kSl, VS.kMutT, VS.kMutR, VS.kSeq, VS.kSet, VS.kRet, VS.kExpr, VS.kIfS, VS.kAsg, VS.kStoT, VS.kStoI, VS.kSto, VS.kFor, VS.kOf, VS.kRng, VS.kFn, VS.kCompQ, VS.kComp, VS.kIsx, VS.kTry, VS.exName, VS.kM, VS.kMb, VS.kCv, VS.frz, VS.on1, VS.on2, VS.oErr, VS.opSl, VS.opRev, VS.isL, VS.isDc, VS.moAppend, VS.stL, VS.keeps, VS.keep, VS.mkTup, VS.allDat, VS.mkV, VS.pD, VS.pL, VS.pTu, VS.pI, VS.pB, VS.PV.tr, VS.PV.held, VS.toD, VS.toDs, VS.elems, VS.telems, VS.opI, VS.opB, VS.opAdd, VS.opEq, VS.opNe, VS.opIs, VS.opIsNot, VS.isNonT, VS.opIx, VS.subT, VS.datV, VS.ms, VS.noVw, VS.arT, VS.arTs, VS.okM, VS.putM, VS.unM, VS.valsA, VS.argsOut, VS.gNm, VS.gTp, VS.gEach, VS.kidsT, VS.tyT, VS.isTy, VS.bLen, VS.seqN, VS.seqD, VS.bList, VS.bRepr, VS.inR, VS.bSum2, VS.pTi, VS.bIndex, VS.bCount, VS.isLi, VS.opRg, VS.sh_int, VS.sh_bl, VS.sh_str, VS.sh_non, VS.eqv_int, VS.eqv_bl, VS.eqv_str, List.getElem?_cons_zero, List.getElem?_cons_succ, List.length_cons, List.length_nil, List.set_cons_zero, List.set_cons_succ, List.replicate_succ, List.replicate_zero, List.cons_append, List.nil_append, List.map_cons, List.map_nil, Option.map_some, Option.map_none, Option.bind_some, Option.bind_none, if_true, if_false, Bool.true_and, Bool.and_true, Bool.false_and, Bool.and_false, Bool.or_true, Bool.true_or, Bool.false_or, Bool.or_false, List.isEmpty_nil, List.isEmpty_cons, List.nodup_nil, decide_true, Bool.false_eq_true, true_and, and_true, Nat.zero_add, Nat.reduceAdd, Nat.reduceSub, Nat.reduceLT, Option.bind_eq_bind, Option.pure_def]
    exact hQ
  · simp only [k1, decide_false, Bool.not_false, toDs_map, toDs_ints, allDat_map, allDat_ints, eqv_ints, sh_ints, sh_nil, eqv_nil, sz_0, sz_1, sz_2, sz_3, sz_4, sz_5, sz_6, sz_7, sz_8, sz_9, sz_10, sz_11, sz_12, sz_13, sz_14, sz_15, sz_16, sz_17, sz_18, sz_19, sz_20, sz_21, sz_22, sz_23, sz_24, sz_25, sz_26, sz_27, sz_28, sz_29, sz_30, sz_31, sz_32, sz_33, sz_34, sz_35, sz_36, sz_37, sz_38, sz_39, sz_40, decide_eq_true_eq, Int.reduceLT, Int.reduceLE, Nat.reduceLeDiff, feedT, nd_one, at2_0, at2_1, at3_0, at3_1, at3_2, ix3_1, ix3_2, set3_1, set3_2, ↓VS.w_var, ↓VS.w_mv, ↓VS.w_c, ↓VS.w_2, ↓VS.w_and, ↓VS.w_or, ↓VS.w_not, ↓VS.w_if, ↓VS.w_ch, ↓VS.w_neg, ↓VS.w_fz, ↓VS.w_nil, ↓VS.w_cons, ↓VS.w_amut, ↓VS.w_disp, ↓VS.w_b, ↓VS.w_isi, ↓VS.w_call, ↓VS.w_rev, ↓VS.w_sl, ↓VS.w_mut, ↓VS.w_snil, ↓VS.w_seq, ↓VS.w_set, ↓VS.w_ret, ↓VS.w_expr, ↓VS.w_ifs, ↓VS.w_asg, ↓VS.w_sto, ↓VS.w_for, ↓VS.w_iof, ↓VS.w_rng, ↓VS.w_isx, ↓VS.w_efn, ↓VS.w_try, ↓VS.w_raise, ↓VS.w_m, ↓VS.w_callV, ↓VS.w_comp, ↓VS.w_yes, ↓VS.wO_some, ↓VS.wO_none, ↓VS.wO_map, ↓VS.wO_ite, VS.kMv, VS.k2b, VS.k2, VS.kQ, VS.kAnd, VS.kOr, VS.kNot, VS.kIf, VS.kChc, VS.kChb, VS.kCh, VS.kNeg, VS.frzV, VS.kFz, VS.kConsB, VS.kCons, VS.kMutA, VS.kUn, VS.kDisp, VS.kB, VS.kIsi, VS.kFo, VS.kCall, VS.kRev, VS.kPartB, VS.kPart, VS.kSlc, VS.kSlb, VS.kSl, VS.kMutT, VS.kMutR, VS.kSeq, VS.kSet, VS.kRet, VS.kExpr, VS.kIfS, VS.kAsg, VS.kStoT, VS.kStoI, VS.kSto, VS.kFor, VS.kOf, VS.kRng, VS.kFn, VS.kCompQ, VS.kComp, VS.kIsx, VS.kTry, VS.exName, VS.kM, VS.kMb, VS.kCv, VS.frz, VS.on1, VS.on2, VS.oErr, VS.opSl, VS.opRev, VS.isL, VS.isDc, VS.moAppend, VS.stL, VS.keeps, VS.keep, VS.mkTup, VS.allDat, VS.mkV, VS.pD, VS.pL, VS.pTu, VS.pI, VS.pB, VS.PV.tr, VS.PV.held, VS.toD, VS.toDs, VS.elems, VS.telems, VS.opI, VS.opB, VS.opAdd, VS.opEq, VS.opNe, VS.opIs, VS.opIsNot, VS.isNonT, VS.opIx, VS.subT, VS.datV, VS.ms, VS.noVw, VS.arT, VS.arTs, VS.okM, VS.putM, VS.unM, VS.valsA, VS.argsOut, VS.gNm, VS.gTp, VS.gEach, VS.kidsT, VS.tyT, VS.isTy, VS.bLen, VS.seqN, VS.seqD, VS.bList, VS.bRepr, VS.inR, VS.bSum2, VS.pTi, VS.bIndex, VS.bCount, VS.isLi, VS.opRg, VS.sh_int, VS.sh_bl, VS.sh_str, VS.sh_non, VS.eqv_int, VS.eqv_bl, VS.eqv_str, List.getElem?_cons_zero, List.getElem?_cons_succ, List.length_cons, List.length_nil, List.set_cons_zero, List.set_cons_succ, List.replicate_succ, List.replicate_zero, List.cons_append, List.nil_append, List.map_cons, List.map_nil, Option.map_some, Option.map_none, Option.bind_some, Option.bind_none, if_true, if_false, Bool.true_and, Bool.and_true, Bool.false_and, Bool.and_false, Bool.or_true, Bool.true_or, Bool.false_or, Bool.or_false, List.isEmpty_nil, List.isEmpty_cons, List.nodup_nil, decide_true, Bool.false_eq_true, true_and, and_true, Nat.zero_add, Nat.reduceAdd, Nat.reduceSub, Nat.reduceLT, Option.bind_eq_bind, Option.pure_def]
    exact hQ
theorem e_over_bounds_bad {kept : List Int} {many : Nat} {low high : Int} {tot : Option Int} {x : Int} {Q : Fo → Prop} (c : CaseS kept many low high tot) (h : ¬ Can many low high tot)
    (hQ : Q (.exc (.own "NoDealing") [.dat (.list (kept.map .int)), .dat (.int many), .dat (.int low), .dat (.int high), .dat (oD tot), .dat (.int x)])) :
    WF F_over_bounds [.dat (.list (kept.map .int)), .dat (.int many), .dat (.int low), .dat (.int high), .dat (oD tot), .dat (.int x)] Q := by
  unfold F_over_bounds
  rw [w_fn (by rfl)]
  unfold g_over_bounds
  have hs : kept.length ≤ sizeLine := sz_of (by have := c.kl; omega)
  simp only [wipeE, calmT, List.getD_cons_zero, List.getD_cons_succ, List.all_cons, List.all_nil, List.length_map, hs, toDs_map, toDs_ints, allDat_map, allDat_ints, eqv_ints, sh_ints, sh_nil, eqv_nil, sz_0, sz_1, sz_2, sz_3, sz_4, sz_5, sz_6, sz_7, sz_8, sz_9, sz_10, sz_11, sz_12, sz_13, sz_14, sz_15, sz_16, sz_17, sz_18, sz_19, sz_20, sz_21, sz_22, sz_23, sz_24, sz_25, sz_26, sz_27, sz_28, sz_29, sz_30, sz_31, sz_32, sz_33, sz_34, sz_35, sz_36, sz_37, sz_38, sz_39, sz_40, decide_eq_true_eq, Int.reduceLT, Int.reduceLE, Nat.reduceLeDiff, feedT, nd_one, at2_0, at2_1, at3_0, at3_1, at3_2, ix3_1, ix3_2, set3_1, set3_2, ↓VS.w_var, ↓VS.w_mv, ↓VS.w_c, ↓VS.w_2, ↓VS.w_and, ↓VS.w_or, ↓VS.w_not, ↓VS.w_if, ↓VS.w_ch, ↓VS.w_neg, ↓VS.w_fz, ↓VS.w_nil, ↓VS.w_cons, ↓VS.w_amut, ↓VS.w_disp, ↓VS.w_b, ↓VS.w_isi, ↓VS.w_call, ↓VS.w_rev, ↓VS.w_sl, ↓VS.w_mut, ↓VS.w_snil, ↓VS.w_seq, ↓VS.w_set, ↓VS.w_ret, ↓VS.w_expr, ↓VS.w_asg, ↓VS.w_sto, ↓VS.w_for, ↓VS.w_iof, ↓VS.w_rng, ↓VS.w_isx, ↓VS.w_efn, ↓VS.w_try, ↓VS.w_raise, ↓VS.w_m, ↓VS.w_callV, ↓VS.w_comp, ↓VS.w_yes, ↓VS.wO_some, ↓VS.wO_none, ↓VS.wO_map, ↓VS.wO_ite, VS.kMv, VS.k2b, VS.k2, VS.kQ, VS.kAnd, VS.kOr, VS.kNot, VS.kIf, VS.kChc, VS.kChb, VS.kCh, VS.kNeg, VS.frzV, VS.kFz, VS.kConsB, VS.kCons, VS.kMutA, VS.kUn, VS.kDisp, VS.kB, VS.kIsi, VS.kFo, VS.kCall, VS.kRev, VS.kPartB, VS.kPart, VS.kSlc, VS.kSlb, VS.kSl, VS.kMutT, VS.kMutR, VS.kSeq, VS.kSet, VS.kRet, VS.kExpr, VS.kIfS, VS.kAsg, VS.kStoT, VS.kStoI, VS.kSto, VS.kFor, VS.kOf, VS.kRng, VS.kFn, VS.kCompQ, VS.kComp, VS.kIsx, VS.kTry, VS.exName, VS.kM, VS.kMb, VS.kCv, VS.frz, VS.on1, VS.on2, VS.oErr, VS.opSl, VS.opRev, VS.isL, VS.isDc, VS.moAppend, VS.stL, VS.keeps, VS.keep, VS.mkTup, VS.allDat, VS.mkV, VS.pD, VS.pL, VS.pTu, VS.pI, VS.pB, VS.PV.tr, VS.PV.held, VS.toD, VS.toDs, VS.elems, VS.telems, VS.opI, VS.opB, VS.opAdd, VS.opEq, VS.opNe, VS.opIs, VS.opIsNot, VS.isNonT, VS.opIx, VS.subT, VS.datV, VS.ms, VS.noVw, VS.arT, VS.arTs, VS.okM, VS.putM, VS.unM, VS.valsA, VS.argsOut, VS.gNm, VS.gTp, VS.gEach, VS.kidsT, VS.tyT, VS.isTy, VS.bLen, VS.seqN, VS.seqD, VS.bList, VS.bRepr, VS.inR, VS.bSum2, VS.pTi, VS.bIndex, VS.bCount, VS.isLi, VS.opRg, VS.sh_int, VS.sh_bl, VS.sh_str, VS.sh_non, VS.eqv_int, VS.eqv_bl, VS.eqv_str, List.getElem?_cons_zero, List.getElem?_cons_succ, List.length_cons, List.length_nil, List.set_cons_zero, List.set_cons_succ, List.replicate_succ, List.replicate_zero, List.cons_append, List.nil_append, List.map_cons, List.map_nil, Option.map_some, Option.map_none, Option.bind_some, Option.bind_none, if_true, if_false, Bool.true_and, Bool.and_true, Bool.false_and, Bool.and_false, Bool.or_true, Bool.true_or, Bool.false_or, Bool.or_false, List.isEmpty_nil, List.isEmpty_cons, List.nodup_nil, decide_true, Bool.false_eq_true, true_and, and_true, Nat.zero_add, Nat.reduceAdd, Nat.reduceSub, Nat.reduceLT, Option.bind_eq_bind, Option.pure_def]
  refine wc_ints (fun v => decide (x ≤ v)) (fun v => v) rfl (fun n hn => ⟨_, rfl, rfl, ?_, fun _ => ?_⟩) ?_
  · simp only [toDs_map, toDs_ints, allDat_map, allDat_ints, eqv_ints, sh_ints, sh_nil, eqv_nil, sz_0, sz_1, sz_2, sz_3, sz_4, sz_5, sz_6, sz_7, sz_8, sz_9, sz_10, sz_11, sz_12, sz_13, sz_14, sz_15, sz_16, sz_17, sz_18, sz_19, sz_20, sz_21, sz_22, sz_23, sz_24, sz_25, sz_26, sz_27, sz_28, sz_29, sz_30, sz_31, sz_32, sz_33, sz_34, sz_35, sz_36, sz_37, sz_38, sz_39, sz_40, decide_eq_true_eq, Int.reduceLT, Int.reduceLE, Nat.reduceLeDiff, feedT, nd_one, at2_0, at2_1, at3_0, at3_1, at3_2, ix3_1, ix3_2, set3_1, set3_2, ↓VS.w_var, ↓VS.w_mv, ↓VS.w_c, ↓VS.w_2, ↓VS.w_and, ↓VS.w_or, ↓VS.w_not, ↓VS.w_if, ↓VS.w_ch, ↓VS.w_neg, ↓VS.w_fz, ↓VS.w_nil, ↓VS.w_cons, ↓VS.w_amut, ↓VS.w_disp, ↓VS.w_b, ↓VS.w_isi, ↓VS.w_call, ↓VS.w_rev, ↓VS.w_sl, ↓VS.w_mut, ↓VS.w_snil, ↓VS.w_seq, ↓VS.w_set, ↓VS.w_ret, ↓VS.w_expr, ↓VS.w_ifs, ↓VS.w_asg, ↓VS.w_sto, ↓VS.w_for, ↓VS.w_iof, ↓VS.w_rng, ↓VS.w_isx, ↓VS.w_efn, ↓VS.w_try, ↓VS.w_raise, ↓VS.w_m, ↓VS.w_callV, ↓VS.w_comp, ↓VS.w_yes, ↓VS.wO_some, ↓VS.wO_none, ↓VS.wO_map, ↓VS.wO_ite, VS.kMv, VS.k2b, VS.k2, VS.kQ, VS.kAnd, VS.kOr, VS.kNot, VS.kIf, VS.kChc, VS.kChb, VS.kCh, VS.kNeg, VS.frzV, VS.kFz, VS.kConsB, VS.kCons, VS.kMutA, VS.kUn, VS.kDisp, VS.kB, VS.kIsi, VS.kFo, VS.kCall, VS.kRev, VS.kPartB, VS.kPart, VS.kSlc, VS.kSlb, VS.kSl, VS.kMutT, VS.kMutR, VS.kSeq, VS.kSet, VS.kRet, VS.kExpr, VS.kIfS, VS.kAsg, VS.kStoT, VS.kStoI, VS.kSto, VS.kFor, VS.kOf, VS.kRng, VS.kFn, VS.kCompQ, VS.kComp, VS.kIsx, VS.kTry, VS.exName, VS.kM, VS.kMb, VS.kCv, VS.frz, VS.on1, VS.on2, VS.oErr, VS.opSl, VS.opRev, VS.isL, VS.isDc, VS.moAppend, VS.stL, VS.keeps, VS.keep, VS.mkTup, VS.allDat, VS.mkV, VS.pD, VS.pL, VS.pTu, VS.pI, VS.pB, VS.PV.tr, VS.PV.held, VS.toD, VS.toDs, VS.elems, VS.telems, VS.opI, VS.opB, VS.opAdd, VS.opEq, VS.opNe, VS.opIs, VS.opIsNot, VS.isNonT, VS.opIx, VS.subT, VS.datV, VS.ms, VS.noVw, VS.arT, VS.arTs, VS.okM, VS.putM, VS.unM, VS.valsA, VS.argsOut, VS.gNm, VS.gTp, VS.gEach, VS.kidsT, VS.tyT, VS.isTy, VS.bLen, VS.seqN, VS.seqD, VS.bList, VS.bRepr, VS.inR, VS.bSum2, VS.pTi, VS.bIndex, VS.bCount, VS.isLi, VS.opRg, VS.sh_int, VS.sh_bl, VS.sh_str, VS.sh_non, VS.eqv_int, VS.eqv_bl, VS.eqv_str, List.getElem?_cons_zero, List.getElem?_cons_succ, List.length_cons, List.length_nil, List.set_cons_zero, List.set_cons_succ, List.replicate_succ, List.replicate_zero, List.cons_append, List.nil_append, List.map_cons, List.map_nil, Option.map_some, Option.map_none, Option.bind_some, Option.bind_none, if_true, if_false, Bool.true_and, Bool.and_true, Bool.false_and, Bool.and_false, Bool.or_true, Bool.true_or, Bool.false_or, Bool.or_false, List.isEmpty_nil, List.isEmpty_cons, List.nodup_nil, decide_true, Bool.false_eq_true, true_and, and_true, Nat.zero_add, Nat.reduceAdd, Nat.reduceSub, Nat.reduceLT, Option.bind_eq_bind, Option.pure_def]; exact ⟨_, rfl, rfl⟩
  · simp only [toDs_map, toDs_ints, allDat_map, allDat_ints, eqv_ints, sh_ints, sh_nil, eqv_nil, sz_0, sz_1, sz_2, sz_3, sz_4, sz_5, sz_6, sz_7, sz_8, sz_9, sz_10, sz_11, sz_12, sz_13, sz_14, sz_15, sz_16, sz_17, sz_18, sz_19, sz_20, sz_21, sz_22, sz_23, sz_24, sz_25, sz_26, sz_27, sz_28, sz_29, sz_30, sz_31, sz_32, sz_33, sz_34, sz_35, sz_36, sz_37, sz_38, sz_39, sz_40, decide_eq_true_eq, Int.reduceLT, Int.reduceLE, Nat.reduceLeDiff, feedT, nd_one, at2_0, at2_1, at3_0, at3_1, at3_2, ix3_1, ix3_2, set3_1, set3_2, ↓VS.w_var, ↓VS.w_mv, ↓VS.w_c, ↓VS.w_2, ↓VS.w_and, ↓VS.w_or, ↓VS.w_not, ↓VS.w_if, ↓VS.w_ch, ↓VS.w_neg, ↓VS.w_fz, ↓VS.w_nil, ↓VS.w_cons, ↓VS.w_amut, ↓VS.w_disp, ↓VS.w_b, ↓VS.w_isi, ↓VS.w_call, ↓VS.w_rev, ↓VS.w_sl, ↓VS.w_mut, ↓VS.w_snil, ↓VS.w_seq, ↓VS.w_set, ↓VS.w_ret, ↓VS.w_expr, ↓VS.w_ifs, ↓VS.w_asg, ↓VS.w_sto, ↓VS.w_for, ↓VS.w_iof, ↓VS.w_rng, ↓VS.w_isx, ↓VS.w_efn, ↓VS.w_try, ↓VS.w_raise, ↓VS.w_m, ↓VS.w_callV, ↓VS.w_comp, ↓VS.w_yes, ↓VS.wO_some, ↓VS.wO_none, ↓VS.wO_map, ↓VS.wO_ite, VS.kMv, VS.k2b, VS.k2, VS.kQ, VS.kAnd, VS.kOr, VS.kNot, VS.kIf, VS.kChc, VS.kChb, VS.kCh, VS.kNeg, VS.frzV, VS.kFz, VS.kConsB, VS.kCons, VS.kMutA, VS.kUn, VS.kDisp, VS.kB, VS.kIsi, VS.kFo, VS.kCall, VS.kRev, VS.kPartB, VS.kPart, VS.kSlc, VS.kSlb, VS.kSl, VS.kMutT, VS.kMutR, VS.kSeq, VS.kSet, VS.kRet, VS.kExpr, VS.kIfS, VS.kAsg, VS.kStoT, VS.kStoI, VS.kSto, VS.kFor, VS.kOf, VS.kRng, VS.kFn, VS.kCompQ, VS.kComp, VS.kIsx, VS.kTry, VS.exName, VS.kM, VS.kMb, VS.kCv, VS.frz, VS.on1, VS.on2, VS.oErr, VS.opSl, VS.opRev, VS.isL, VS.isDc, VS.moAppend, VS.stL, VS.keeps, VS.keep, VS.mkTup, VS.allDat, VS.mkV, VS.pD, VS.pL, VS.pTu, VS.pI, VS.pB, VS.PV.tr, VS.PV.held, VS.toD, VS.toDs, VS.elems, VS.telems, VS.opI, VS.opB, VS.opAdd, VS.opEq, VS.opNe, VS.opIs, VS.opIsNot, VS.isNonT, VS.opIx, VS.subT, VS.datV, VS.ms, VS.noVw, VS.arT, VS.arTs, VS.okM, VS.putM, VS.unM, VS.valsA, VS.argsOut, VS.gNm, VS.gTp, VS.gEach, VS.kidsT, VS.tyT, VS.isTy, VS.bLen, VS.seqN, VS.seqD, VS.bList, VS.bRepr, VS.inR, VS.bSum2, VS.pTi, VS.bIndex, VS.bCount, VS.isLi, VS.opRg, VS.sh_int, VS.sh_bl, VS.sh_str, VS.sh_non, VS.eqv_int, VS.eqv_bl, VS.eqv_str, List.getElem?_cons_zero, List.getElem?_cons_succ, List.length_cons, List.length_nil, List.set_cons_zero, List.set_cons_succ, List.replicate_succ, List.replicate_zero, List.cons_append, List.nil_append, List.map_cons, List.map_nil, Option.map_some, Option.map_none, Option.bind_some, Option.bind_none, if_true, if_false, Bool.true_and, Bool.and_true, Bool.false_and, Bool.and_false, Bool.or_true, Bool.true_or, Bool.false_or, Bool.or_false, List.isEmpty_nil, List.isEmpty_cons, List.nodup_nil, decide_true, Bool.false_eq_true, true_and, and_true, Nat.zero_add, Nat.reduceAdd, Nat.reduceSub, Nat.reduceLT, Option.bind_eq_bind, Option.pure_def]; exact ⟨_, rfl, rfl⟩
  simp only [kCompQ, List.nil_append, List.length_map, toDs_map, toDs_ints, allDat_map, allDat_ints, eqv_ints, sh_ints, sh_nil, eqv_nil, sz_0, sz_1, sz_2, sz_3, sz_4, sz_5, sz_6, sz_7, sz_8, sz_9, sz_10, sz_11, sz_12, sz_13, sz_14, sz_15, sz_16, sz_17, sz_18, sz_19, sz_20, sz_21, sz_22, sz_23, sz_24, sz_25, sz_26, sz_27, sz_28, sz_29, sz_30, sz_31, sz_32, sz_33, sz_34, sz_35, sz_36, sz_37, sz_38, sz_39, sz_40, decide_eq_true_eq, Int.reduceLT, Int.reduceLE, Nat.reduceLeDiff, feedT, nd_one, at2_0, at2_1, at3_0, at3_1, at3_2, ix3_1, ix3_2, set3_1, set3_2, ↓VS.w_var, ↓VS.w_mv, ↓VS.w_c, ↓VS.w_2, ↓VS.w_and, ↓VS.w_or, ↓VS.w_not, ↓VS.w_if, ↓VS.w_ch, ↓VS.w_neg, ↓VS.w_fz, ↓VS.w_nil, ↓VS.w_cons, ↓VS.w_amut, ↓VS.w_disp, ↓VS.w_b, ↓VS.w_isi, ↓VS.w_call, ↓VS.w_rev, ↓VS.w_sl, ↓VS.w_mut, ↓VS.w_snil, ↓VS.w_seq, ↓VS.w_set, ↓VS.w_ret, ↓VS.w_expr, ↓VS.w_asg, ↓VS.w_sto, ↓VS.w_for, ↓VS.w_iof, ↓VS.w_rng, ↓VS.w_isx, ↓VS.w_efn, ↓VS.w_try, ↓VS.w_raise, ↓VS.w_m, ↓VS.w_callV, ↓VS.w_comp, ↓VS.w_yes, ↓VS.wO_some, ↓VS.wO_none, ↓VS.wO_map, ↓VS.wO_ite, VS.kMv, VS.k2b, VS.k2, VS.kQ, VS.kAnd, VS.kOr, VS.kNot, VS.kIf, VS.kChc, VS.kChb, VS.kCh, VS.kNeg, VS.frzV, VS.kFz, VS.kConsB, VS.kCons, VS.kMutA, VS.kUn, VS.kDisp, VS.kB, VS.kIsi, VS.kFo, VS.kCall, VS.kRev, VS.kPartB, VS.kPart, VS.kSlc, VS.kSlb, VS.kSl, VS.kMutT, VS.kMutR, VS.kSeq, VS.kSet, VS.kRet, VS.kExpr, VS.kIfS, VS.kAsg, VS.kStoT, VS.kStoI, VS.kSto, VS.kFor, VS.kOf, VS.kRng, VS.kFn, VS.kCompQ, VS.kComp, VS.kIsx, VS.kTry, VS.exName, VS.kM, VS.kMb, VS.kCv, VS.frz, VS.on1, VS.on2, VS.oErr, VS.opSl, VS.opRev, VS.isL, VS.isDc, VS.moAppend, VS.stL, VS.keeps, VS.keep, VS.mkTup, VS.allDat, VS.mkV, VS.pD, VS.pL, VS.pTu, VS.pI, VS.pB, VS.PV.tr, VS.PV.held, VS.toD, VS.toDs, VS.elems, VS.telems, VS.opI, VS.opB, VS.opAdd, VS.opEq, VS.opNe, VS.opIs, VS.opIsNot, VS.isNonT, VS.opIx, VS.subT, VS.datV, VS.ms, VS.noVw, VS.arT, VS.arTs, VS.okM, VS.putM, VS.unM, VS.valsA, VS.argsOut, VS.gNm, VS.gTp, VS.gEach, VS.kidsT, VS.tyT, VS.isTy, VS.bLen, VS.seqN, VS.seqD, VS.bList, VS.bRepr, VS.inR, VS.bSum2, VS.pTi, VS.bIndex, VS.bCount, VS.isLi, VS.opRg, VS.sh_int, VS.sh_bl, VS.sh_str, VS.sh_non, VS.eqv_int, VS.eqv_bl, VS.eqv_str, List.getElem?_cons_zero, List.getElem?_cons_succ, List.length_cons, List.length_nil, List.set_cons_zero, List.set_cons_succ, List.replicate_succ, List.replicate_zero, List.cons_append, List.nil_append, List.map_cons, List.map_nil, Option.map_some, Option.map_none, Option.bind_some, Option.bind_none, if_true, if_false, Bool.true_and, Bool.and_true, Bool.false_and, Bool.and_false, Bool.or_true, Bool.true_or, Bool.false_or, Bool.or_false, List.isEmpty_nil, List.isEmpty_cons, List.nodup_nil, decide_true, Bool.false_eq_true, true_and, and_true, Nat.zero_add, Nat.reduceAdd, Nat.reduceSub, Nat.reduceLT, Option.bind_eq_bind, Option.pure_def]
  refine e_meant_bad c h ?_
  simp only [toDs_map, toDs_ints, allDat_map, allDat_ints, eqv_ints, sh_ints, sh_nil, eqv_nil, sz_0, sz_1, sz_2, sz_3, sz_4, sz_5, sz_6, sz_7, sz_8, sz_9, sz_10, sz_11, sz_12, sz_13, sz_14, sz_15, sz_16, sz_17, sz_18, sz_19, sz_20, sz_21, sz_22, sz_23, sz_24, sz_25, sz_26, sz_27, sz_28, sz_29, sz_30, sz_31, sz_32, sz_33, sz_34, sz_35, sz_36, sz_37, sz_38, sz_39, sz_40, decide_eq_true_eq, Int.reduceLT, Int.reduceLE, Nat.reduceLeDiff, feedT, nd_one, at2_0, at2_1, at3_0, at3_1, at3_2, ix3_1, ix3_2, set3_1, set3_2, ↓VS.w_var, ↓VS.w_mv, ↓VS.w_c, ↓VS.w_2, ↓VS.w_and, ↓VS.w_or, ↓VS.w_not, ↓VS.w_if, ↓VS.w_ch, ↓VS.w_neg, ↓VS.w_fz, ↓VS.w_nil, ↓VS.w_cons, ↓VS.w_amut, ↓VS.w_disp, ↓VS.w_b, ↓VS.w_isi, ↓VS.w_call, ↓VS.w_rev, ↓VS.w_sl, ↓VS.w_mut, ↓VS.w_snil, ↓VS.w_seq, ↓VS.w_set, ↓VS.w_ret, ↓VS.w_expr, ↓VS.w_asg, ↓VS.w_sto, ↓VS.w_for, ↓VS.w_iof, ↓VS.w_rng, ↓VS.w_isx, ↓VS.w_efn, ↓VS.w_try, ↓VS.w_raise, ↓VS.w_m, ↓VS.w_callV, ↓VS.w_comp, ↓VS.w_yes, ↓VS.wO_some, ↓VS.wO_none, ↓VS.wO_map, ↓VS.wO_ite, VS.kMv, VS.k2b, VS.k2, VS.kQ, VS.kAnd, VS.kOr, VS.kNot, VS.kIf, VS.kChc, VS.kChb, VS.kCh, VS.kNeg, VS.frzV, VS.kFz, VS.kConsB, VS.kCons, VS.kMutA, VS.kUn, VS.kDisp, VS.kB, VS.kIsi, VS.kFo, VS.kCall, VS.kRev, VS.kPartB, VS.kPart, VS.kSlc, VS.kSlb, VS.kSl, VS.kMutT, VS.kMutR, VS.kSeq, VS.kSet, VS.kRet, VS.kExpr, VS.kIfS, VS.kAsg, VS.kStoT, VS.kStoI, VS.kSto, VS.kFor, VS.kOf, VS.kRng, VS.kFn, VS.kCompQ, VS.kComp, VS.kIsx, VS.kTry, VS.exName, VS.kM, VS.kMb, VS.kCv, VS.frz, VS.on1, VS.on2, VS.oErr, VS.opSl, VS.opRev, VS.isL, VS.isDc, VS.moAppend, VS.stL, VS.keeps, VS.keep, VS.mkTup, VS.allDat, VS.mkV, VS.pD, VS.pL, VS.pTu, VS.pI, VS.pB, VS.PV.tr, VS.PV.held, VS.toD, VS.toDs, VS.elems, VS.telems, VS.opI, VS.opB, VS.opAdd, VS.opEq, VS.opNe, VS.opIs, VS.opIsNot, VS.isNonT, VS.opIx, VS.subT, VS.datV, VS.ms, VS.noVw, VS.arT, VS.arTs, VS.okM, VS.putM, VS.unM, VS.valsA, VS.argsOut, VS.gNm, VS.gTp, VS.gEach, VS.kidsT, VS.tyT, VS.isTy, VS.bLen, VS.seqN, VS.seqD, VS.bList, VS.bRepr, VS.inR, VS.bSum2, VS.pTi, VS.bIndex, VS.bCount, VS.isLi, VS.opRg, VS.sh_int, VS.sh_bl, VS.sh_str, VS.sh_non, VS.eqv_int, VS.eqv_bl, VS.eqv_str, List.getElem?_cons_zero, List.getElem?_cons_succ, List.length_cons, List.length_nil, List.set_cons_zero, List.set_cons_succ, List.replicate_succ, List.replicate_zero, List.cons_append, List.nil_append, List.map_cons, List.map_nil, Option.map_some, Option.map_none, Option.bind_some, Option.bind_none, if_true, if_false, Bool.true_and, Bool.and_true, Bool.false_and, Bool.and_false, Bool.or_true, Bool.true_or, Bool.false_or, Bool.or_false, List.isEmpty_nil, List.isEmpty_cons, List.nodup_nil, decide_true, Bool.false_eq_true, true_and, and_true, Nat.zero_add, Nat.reduceAdd, Nat.reduceSub, Nat.reduceLT, Option.bind_eq_bind, Option.pure_def]
  exact hQ
def askD (kept : List Int) (many : Nat) (low high : Int) (tot : Option Int) (x : Int) : D := .tuple [.list (kept.map .int), .int many, .int low, .int high, oD tot, .int x]
theorem e_said_told {kept : List Int} {many : Nat} {low high : Int} {tot : Option Int} {x : Int} {Q : Fo → Prop} (c : Case kept many low high tot) (hx : -(10 ^ 38) ≤ x ∧ x ≤ 10 ^ 38)
    (hQ : Q (.ret (.dat (.tuple [.str "told", .tuple [.int (ov x kept + leastOver many low high (meantT tot many low high false) x), .int (ov x kept + many - leastOver many (0 - high) (0 - low) (0 - meantT tot many low high true) (1 - x))]]))
      [.fn "over_bounds", .dat (askD kept many low high tot x)])) : WF F_law_e_said [.fn "over_bounds", .dat (askD kept many low high tot x)] Q := by
  unfold F_law_e_said
  rw [w_fn (by rfl)]
  unfold g_law_e_said
  have lk : List.lookup ("over_bounds" : Str) [("over_bounds", F_over_bounds)] = some F_over_bounds := rfl
  have a0 : ∀ {α : Type} {a b c d e f : α}, L2.atI [a, b, c, d, e, f] 0 = some a := rfl
  have a1 : ∀ {α : Type} {a b c d e f : α}, L2.atI [a, b, c, d, e, f] 1 = some b := rfl
  have a2 : ∀ {α : Type} {a b c d e f : α}, L2.atI [a, b, c, d, e, f] 2 = some c := rfl
  have a3 : ∀ {α : Type} {a b c d e f : α}, L2.atI [a, b, c, d, e, f] 3 = some d := rfl
  have a4 : ∀ {α : Type} {a b c d e f : α}, L2.atI [a, b, c, d, e, f] 4 = some e := rfl
  have a5 : ∀ {α : Type} {a b c d e f : α}, L2.atI [a, b, c, d, e, f] 5 = some f := rfl
  have six : decide (((6 : Nat) : Int) = 6) = true := rfl
  simp only [askD, lk, a0, a1, a2, a3, a4, a5, six, toDs_map, toDs_ints, allDat_map, allDat_ints, eqv_ints, sh_ints, sh_nil, eqv_nil, sz_0, sz_1, sz_2, sz_3, sz_4, sz_5, sz_6, sz_7, sz_8, sz_9, sz_10, sz_11, sz_12, sz_13, sz_14, sz_15, sz_16, sz_17, sz_18, sz_19, sz_20, sz_21, sz_22, sz_23, sz_24, sz_25, sz_26, sz_27, sz_28, sz_29, sz_30, sz_31, sz_32, sz_33, sz_34, sz_35, sz_36, sz_37, sz_38, sz_39, sz_40, decide_eq_true_eq, Int.reduceLT, Int.reduceLE, Nat.reduceLeDiff, feedT, nd_one, at2_0, at2_1, at3_0, at3_1, at3_2, ix3_1, ix3_2, set3_1, set3_2, ↓VS.w_var, ↓VS.w_mv, ↓VS.w_c, ↓VS.w_2, ↓VS.w_and, ↓VS.w_or, ↓VS.w_not, ↓VS.w_if, ↓VS.w_ch, ↓VS.w_neg, ↓VS.w_fz, ↓VS.w_nil, ↓VS.w_cons, ↓VS.w_amut, ↓VS.w_disp, ↓VS.w_b, ↓VS.w_isi, ↓VS.w_call, ↓VS.w_rev, ↓VS.w_sl, ↓VS.w_mut, ↓VS.w_snil, ↓VS.w_seq, ↓VS.w_set, ↓VS.w_ret, ↓VS.w_expr, ↓VS.w_ifs, ↓VS.w_asg, ↓VS.w_sto, ↓VS.w_for, ↓VS.w_iof, ↓VS.w_rng, ↓VS.w_isx, ↓VS.w_efn, ↓VS.w_try, ↓VS.w_raise, ↓VS.w_m, ↓VS.w_callV, ↓VS.w_comp, ↓VS.w_yes, ↓VS.wO_some, ↓VS.wO_none, ↓VS.wO_map, ↓VS.wO_ite, VS.kMv, VS.k2b, VS.k2, VS.kQ, VS.kAnd, VS.kOr, VS.kNot, VS.kIf, VS.kChc, VS.kChb, VS.kCh, VS.kNeg, VS.frzV, VS.kFz, VS.kConsB, VS.kCons, VS.kMutA, VS.kUn, VS.kDisp, VS.kB, VS.kIsi, VS.kFo, VS.kCall, VS.kRev, VS.kPartB, VS.kPart, VS.kSlc, VS.kSlb, VS.kSl, VS.kMutT, VS.kMutR, VS.kSeq, VS.kSet, VS.kRet, VS.kExpr, VS.kIfS, VS.kAsg, VS.kStoT, VS.kStoI, VS.kSto, VS.kFor, VS.kOf, VS.kRng, VS.kFn, VS.kCompQ, VS.kComp, VS.kIsx, VS.kTry, VS.exName, VS.kM, VS.kMb, VS.kCv, VS.frz, VS.on1, VS.on2, VS.oErr, VS.opSl, VS.opRev, VS.isL, VS.isDc, VS.moAppend, VS.stL, VS.keeps, VS.keep, VS.mkTup, VS.allDat, VS.mkV, VS.pD, VS.pL, VS.pTu, VS.pI, VS.pB, VS.PV.tr, VS.PV.held, VS.toD, VS.toDs, VS.elems, VS.telems, VS.opI, VS.opB, VS.opAdd, VS.opEq, VS.opNe, VS.opIs, VS.opIsNot, VS.isNonT, VS.opIx, VS.subT, VS.datV, VS.ms, VS.noVw, VS.arT, VS.arTs, VS.okM, VS.putM, VS.unM, VS.valsA, VS.argsOut, VS.gNm, VS.gTp, VS.gEach, VS.kidsT, VS.tyT, VS.isTy, VS.bLen, VS.seqN, VS.seqD, VS.bList, VS.bRepr, VS.inR, VS.bSum2, VS.pTi, VS.bIndex, VS.bCount, VS.isLi, VS.opRg, VS.sh_int, VS.sh_bl, VS.sh_str, VS.sh_non, VS.eqv_int, VS.eqv_bl, VS.eqv_str, List.getElem?_cons_zero, List.getElem?_cons_succ, List.length_cons, List.length_nil, List.set_cons_zero, List.set_cons_succ, List.replicate_succ, List.replicate_zero, List.cons_append, List.nil_append, List.map_cons, List.map_nil, Option.map_some, Option.map_none, Option.bind_some, Option.bind_none, if_true, if_false, Bool.true_and, Bool.and_true, Bool.false_and, Bool.and_false, Bool.or_true, Bool.true_or, Bool.false_or, Bool.or_false, List.isEmpty_nil, List.isEmpty_cons, List.nodup_nil, decide_true, Bool.false_eq_true, true_and, and_true, Nat.zero_add, Nat.reduceAdd, Nat.reduceSub, Nat.reduceLT, Option.bind_eq_bind, Option.pure_def]
  refine e_over_bounds c hx ?_
  simp only [toDs_map, toDs_ints, allDat_map, allDat_ints, eqv_ints, sh_ints, sh_nil, eqv_nil, sz_0, sz_1, sz_2, sz_3, sz_4, sz_5, sz_6, sz_7, sz_8, sz_9, sz_10, sz_11, sz_12, sz_13, sz_14, sz_15, sz_16, sz_17, sz_18, sz_19, sz_20, sz_21, sz_22, sz_23, sz_24, sz_25, sz_26, sz_27, sz_28, sz_29, sz_30, sz_31, sz_32, sz_33, sz_34, sz_35, sz_36, sz_37, sz_38, sz_39, sz_40, decide_eq_true_eq, Int.reduceLT, Int.reduceLE, Nat.reduceLeDiff, feedT, nd_one, at2_0, at2_1, at3_0, at3_1, at3_2, ix3_1, ix3_2, set3_1, set3_2, ↓VS.w_var, ↓VS.w_mv, ↓VS.w_c, ↓VS.w_2, ↓VS.w_and, ↓VS.w_or, ↓VS.w_not, ↓VS.w_if, ↓VS.w_ch, ↓VS.w_neg, ↓VS.w_fz, ↓VS.w_nil, ↓VS.w_cons, ↓VS.w_amut, ↓VS.w_disp, ↓VS.w_b, ↓VS.w_isi, ↓VS.w_call, ↓VS.w_rev, ↓VS.w_sl, ↓VS.w_mut, ↓VS.w_snil, ↓VS.w_seq, ↓VS.w_set, ↓VS.w_ret, ↓VS.w_expr, ↓VS.w_ifs, ↓VS.w_asg, ↓VS.w_sto, ↓VS.w_for, ↓VS.w_iof, ↓VS.w_rng, ↓VS.w_isx, ↓VS.w_efn, ↓VS.w_try, ↓VS.w_raise, ↓VS.w_m, ↓VS.w_callV, ↓VS.w_comp, ↓VS.w_yes, ↓VS.wO_some, ↓VS.wO_none, ↓VS.wO_map, ↓VS.wO_ite, VS.kMv, VS.k2b, VS.k2, VS.kQ, VS.kAnd, VS.kOr, VS.kNot, VS.kIf, VS.kChc, VS.kChb, VS.kCh, VS.kNeg, VS.frzV, VS.kFz, VS.kConsB, VS.kCons, VS.kMutA, VS.kUn, VS.kDisp, VS.kB, VS.kIsi, VS.kFo, VS.kCall, VS.kRev, VS.kPartB, VS.kPart, VS.kSlc, VS.kSlb, VS.kSl, VS.kMutT, VS.kMutR, VS.kSeq, VS.kSet, VS.kRet, VS.kExpr, VS.kIfS, VS.kAsg, VS.kStoT, VS.kStoI, VS.kSto, VS.kFor, VS.kOf, VS.kRng, VS.kFn, VS.kCompQ, VS.kComp, VS.kIsx, VS.kTry, VS.exName, VS.kM, VS.kMb, VS.kCv, VS.frz, VS.on1, VS.on2, VS.oErr, VS.opSl, VS.opRev, VS.isL, VS.isDc, VS.moAppend, VS.stL, VS.keeps, VS.keep, VS.mkTup, VS.allDat, VS.mkV, VS.pD, VS.pL, VS.pTu, VS.pI, VS.pB, VS.PV.tr, VS.PV.held, VS.toD, VS.toDs, VS.elems, VS.telems, VS.opI, VS.opB, VS.opAdd, VS.opEq, VS.opNe, VS.opIs, VS.opIsNot, VS.isNonT, VS.opIx, VS.subT, VS.datV, VS.ms, VS.noVw, VS.arT, VS.arTs, VS.okM, VS.putM, VS.unM, VS.valsA, VS.argsOut, VS.gNm, VS.gTp, VS.gEach, VS.kidsT, VS.tyT, VS.isTy, VS.bLen, VS.seqN, VS.seqD, VS.bList, VS.bRepr, VS.inR, VS.bSum2, VS.pTi, VS.bIndex, VS.bCount, VS.isLi, VS.opRg, VS.sh_int, VS.sh_bl, VS.sh_str, VS.sh_non, VS.eqv_int, VS.eqv_bl, VS.eqv_str, List.getElem?_cons_zero, List.getElem?_cons_succ, List.length_cons, List.length_nil, List.set_cons_zero, List.set_cons_succ, List.replicate_succ, List.replicate_zero, List.cons_append, List.nil_append, List.map_cons, List.map_nil, Option.map_some, Option.map_none, Option.bind_some, Option.bind_none, if_true, if_false, Bool.true_and, Bool.and_true, Bool.false_and, Bool.and_false, Bool.or_true, Bool.true_or, Bool.false_or, Bool.or_false, List.isEmpty_nil, List.isEmpty_cons, List.nodup_nil, decide_true, Bool.false_eq_true, true_and, and_true, Nat.zero_add, Nat.reduceAdd, Nat.reduceSub, Nat.reduceLT, Option.bind_eq_bind, Option.pure_def]
  exact hQ
theorem e_said_no {kept : List Int} {many : Nat} {low high : Int} {tot : Option Int} {x : Int} {Q : Fo → Prop} (c : CaseS kept many low high tot) (h : ¬ Can many low high tot)
    (hQ : Q (.ret (.dat (.tuple [.str "dealing", .none])) [.fn "over_bounds", .dat (askD kept many low high tot x)])) : WF F_law_e_said [.fn "over_bounds", .dat (askD kept many low high tot x)] Q := by
  unfold F_law_e_said
  rw [w_fn (by rfl)]
  unfold g_law_e_said
  have lk : List.lookup ("over_bounds" : Str) [("over_bounds", F_over_bounds)] = some F_over_bounds := rfl
  have a0 : ∀ {α : Type} {a b c d e f : α}, L2.atI [a, b, c, d, e, f] 0 = some a := rfl
  have a1 : ∀ {α : Type} {a b c d e f : α}, L2.atI [a, b, c, d, e, f] 1 = some b := rfl
  have a2 : ∀ {α : Type} {a b c d e f : α}, L2.atI [a, b, c, d, e, f] 2 = some c := rfl
  have a3 : ∀ {α : Type} {a b c d e f : α}, L2.atI [a, b, c, d, e, f] 3 = some d := rfl
  have a4 : ∀ {α : Type} {a b c d e f : α}, L2.atI [a, b, c, d, e, f] 4 = some e := rfl
  have a5 : ∀ {α : Type} {a b c d e f : α}, L2.atI [a, b, c, d, e, f] 5 = some f := rfl
  have six : decide (((6 : Nat) : Int) = 6) = true := rfl
  have m1 : (("NoDealing" : Str) ∈ ([] : List Str)) = False := by simp
  have m2 : (("NoDealing" : Str) ∈ (["NoDealing"] : List Str)) = True := by simp
  simp only [askD, lk, a0, a1, a2, a3, a4, a5, six, toDs_map, toDs_ints, allDat_map, allDat_ints, eqv_ints, sh_ints, sh_nil, eqv_nil, sz_0, sz_1, sz_2, sz_3, sz_4, sz_5, sz_6, sz_7, sz_8, sz_9, sz_10, sz_11, sz_12, sz_13, sz_14, sz_15, sz_16, sz_17, sz_18, sz_19, sz_20, sz_21, sz_22, sz_23, sz_24, sz_25, sz_26, sz_27, sz_28, sz_29, sz_30, sz_31, sz_32, sz_33, sz_34, sz_35, sz_36, sz_37, sz_38, sz_39, sz_40, decide_eq_true_eq, Int.reduceLT, Int.reduceLE, Nat.reduceLeDiff, feedT, nd_one, at2_0, at2_1, at3_0, at3_1, at3_2, ix3_1, ix3_2, set3_1, set3_2, ↓VS.w_var, ↓VS.w_mv, ↓VS.w_c, ↓VS.w_2, ↓VS.w_and, ↓VS.w_or, ↓VS.w_not, ↓VS.w_if, ↓VS.w_ch, ↓VS.w_neg, ↓VS.w_fz, ↓VS.w_nil, ↓VS.w_cons, ↓VS.w_amut, ↓VS.w_disp, ↓VS.w_b, ↓VS.w_isi, ↓VS.w_call, ↓VS.w_rev, ↓VS.w_sl, ↓VS.w_mut, ↓VS.w_snil, ↓VS.w_seq, ↓VS.w_set, ↓VS.w_ret, ↓VS.w_expr, ↓VS.w_ifs, ↓VS.w_asg, ↓VS.w_sto, ↓VS.w_for, ↓VS.w_iof, ↓VS.w_rng, ↓VS.w_isx, ↓VS.w_efn, ↓VS.w_try, ↓VS.w_raise, ↓VS.w_m, ↓VS.w_callV, ↓VS.w_comp, ↓VS.w_yes, ↓VS.wO_some, ↓VS.wO_none, ↓VS.wO_map, ↓VS.wO_ite, VS.kMv, VS.k2b, VS.k2, VS.kQ, VS.kAnd, VS.kOr, VS.kNot, VS.kIf, VS.kChc, VS.kChb, VS.kCh, VS.kNeg, VS.frzV, VS.kFz, VS.kConsB, VS.kCons, VS.kMutA, VS.kUn, VS.kDisp, VS.kB, VS.kIsi, VS.kFo, VS.kCall, VS.kRev, VS.kPartB, VS.kPart, VS.kSlc, VS.kSlb, VS.kSl, VS.kMutT, VS.kMutR, VS.kSeq, VS.kSet, VS.kRet, VS.kExpr, VS.kIfS, VS.kAsg, VS.kStoT, VS.kStoI, VS.kSto, VS.kFor, VS.kOf, VS.kRng, VS.kFn, VS.kCompQ, VS.kComp, VS.kIsx, VS.kTry, VS.exName, VS.kM, VS.kMb, VS.kCv, VS.frz, VS.on1, VS.on2, VS.oErr, VS.opSl, VS.opRev, VS.isL, VS.isDc, VS.moAppend, VS.stL, VS.keeps, VS.keep, VS.mkTup, VS.allDat, VS.mkV, VS.pD, VS.pL, VS.pTu, VS.pI, VS.pB, VS.PV.tr, VS.PV.held, VS.toD, VS.toDs, VS.elems, VS.telems, VS.opI, VS.opB, VS.opAdd, VS.opEq, VS.opNe, VS.opIs, VS.opIsNot, VS.isNonT, VS.opIx, VS.subT, VS.datV, VS.ms, VS.noVw, VS.arT, VS.arTs, VS.okM, VS.putM, VS.unM, VS.valsA, VS.argsOut, VS.gNm, VS.gTp, VS.gEach, VS.kidsT, VS.tyT, VS.isTy, VS.bLen, VS.seqN, VS.seqD, VS.bList, VS.bRepr, VS.inR, VS.bSum2, VS.pTi, VS.bIndex, VS.bCount, VS.isLi, VS.opRg, VS.sh_int, VS.sh_bl, VS.sh_str, VS.sh_non, VS.eqv_int, VS.eqv_bl, VS.eqv_str, List.getElem?_cons_zero, List.getElem?_cons_succ, List.length_cons, List.length_nil, List.set_cons_zero, List.set_cons_succ, List.replicate_succ, List.replicate_zero, List.cons_append, List.nil_append, List.map_cons, List.map_nil, Option.map_some, Option.map_none, Option.bind_some, Option.bind_none, if_true, if_false, Bool.true_and, Bool.and_true, Bool.false_and, Bool.and_false, Bool.or_true, Bool.true_or, Bool.false_or, Bool.or_false, List.isEmpty_nil, List.isEmpty_cons, List.nodup_nil, decide_true, Bool.false_eq_true, true_and, and_true, Nat.zero_add, Nat.reduceAdd, Nat.reduceSub, Nat.reduceLT, Option.bind_eq_bind, Option.pure_def]
  refine e_over_bounds_bad c h ?_
  have sh2 : SeqAt.shaped (.list [.bool false, .bool true]) = true := by simp [SeqAt.shaped, PyData.canLay0, PyData.canLayAll0, PyData.depth, PyData.depthAll]
  have cnt : List.countP (fun z => PyData.eqv z (.bool true)) [PyData.bool false, .bool true] = 1 := by simp [List.countP_cons, eqv_bl]
  have idx : List.findIdx? (fun z => PyData.eqv z (.bool true)) [PyData.bool false, .bool true] = some 1 := by simp [List.findIdx?_cons, eqv_bl]
  have one : decide (((1 : Nat) : Int) = 1) = true := rfl
  have i1 : L2.atI [T.dat (.str "place"), .dat (.str "dealing")] ((1 : Nat) : Int) = some (.dat (.str "dealing")) := rfl
  simp only [m1, m2, sh2, cnt, idx, one, i1, decide_false, Bool.not_true, toDs_map, toDs_ints, allDat_map, allDat_ints, eqv_ints, sh_ints, sh_nil, eqv_nil, sz_0, sz_1, sz_2, sz_3, sz_4, sz_5, sz_6, sz_7, sz_8, sz_9, sz_10, sz_11, sz_12, sz_13, sz_14, sz_15, sz_16, sz_17, sz_18, sz_19, sz_20, sz_21, sz_22, sz_23, sz_24, sz_25, sz_26, sz_27, sz_28, sz_29, sz_30, sz_31, sz_32, sz_33, sz_34, sz_35, sz_36, sz_37, sz_38, sz_39, sz_40, decide_eq_true_eq, Int.reduceLT, Int.reduceLE, Nat.reduceLeDiff, feedT, nd_one, at2_0, at2_1, at3_0, at3_1, at3_2, ix3_1, ix3_2, set3_1, set3_2, ↓VS.w_var, ↓VS.w_mv, ↓VS.w_c, ↓VS.w_2, ↓VS.w_and, ↓VS.w_or, ↓VS.w_not, ↓VS.w_if, ↓VS.w_ch, ↓VS.w_neg, ↓VS.w_fz, ↓VS.w_nil, ↓VS.w_cons, ↓VS.w_amut, ↓VS.w_disp, ↓VS.w_b, ↓VS.w_isi, ↓VS.w_call, ↓VS.w_rev, ↓VS.w_sl, ↓VS.w_mut, ↓VS.w_snil, ↓VS.w_seq, ↓VS.w_set, ↓VS.w_ret, ↓VS.w_expr, ↓VS.w_ifs, ↓VS.w_asg, ↓VS.w_sto, ↓VS.w_for, ↓VS.w_iof, ↓VS.w_rng, ↓VS.w_isx, ↓VS.w_efn, ↓VS.w_try, ↓VS.w_raise, ↓VS.w_m, ↓VS.w_callV, ↓VS.w_comp, ↓VS.w_yes, ↓VS.wO_some, ↓VS.wO_none, ↓VS.wO_map, ↓VS.wO_ite, VS.kMv, VS.k2b, VS.k2, VS.kQ, VS.kAnd, VS.kOr, VS.kNot, VS.kIf, VS.kChc, VS.kChb, VS.kCh, VS.kNeg, VS.frzV, VS.kFz, VS.kConsB, VS.kCons, VS.kMutA, VS.kUn, VS.kDisp, VS.kB, VS.kIsi, VS.kFo, VS.kCall, VS.kRev, VS.kPartB, VS.kPart, VS.kSlc, VS.kSlb, VS.kSl, VS.kMutT, VS.kMutR, VS.kSeq, VS.kSet, VS.kRet, VS.kExpr, VS.kIfS, VS.kAsg, VS.kStoT, VS.kStoI, VS.kSto, VS.kFor, VS.kOf, VS.kRng, VS.kFn, VS.kCompQ, VS.kComp, VS.kIsx, VS.kTry, VS.exName, VS.kM, VS.kMb, VS.kCv, VS.frz, VS.on1, VS.on2, VS.oErr, VS.opSl, VS.opRev, VS.isL, VS.isDc, VS.moAppend, VS.stL, VS.keeps, VS.keep, VS.mkTup, VS.allDat, VS.mkV, VS.pD, VS.pL, VS.pTu, VS.pI, VS.pB, VS.PV.tr, VS.PV.held, VS.toD, VS.toDs, VS.elems, VS.telems, VS.opI, VS.opB, VS.opAdd, VS.opEq, VS.opNe, VS.opIs, VS.opIsNot, VS.isNonT, VS.opIx, VS.subT, VS.datV, VS.ms, VS.noVw, VS.arT, VS.arTs, VS.okM, VS.putM, VS.unM, VS.valsA, VS.argsOut, VS.gNm, VS.gTp, VS.gEach, VS.kidsT, VS.tyT, VS.isTy, VS.bLen, VS.seqN, VS.seqD, VS.bList, VS.bRepr, VS.inR, VS.bSum2, VS.pTi, VS.bIndex, VS.bCount, VS.isLi, VS.opRg, VS.sh_int, VS.sh_bl, VS.sh_str, VS.sh_non, VS.eqv_int, VS.eqv_bl, VS.eqv_str, List.getElem?_cons_zero, List.getElem?_cons_succ, List.length_cons, List.length_nil, List.set_cons_zero, List.set_cons_succ, List.replicate_succ, List.replicate_zero, List.cons_append, List.nil_append, List.map_cons, List.map_nil, Option.map_some, Option.map_none, Option.bind_some, Option.bind_none, if_true, if_false, Bool.true_and, Bool.and_true, Bool.false_and, Bool.and_false, Bool.or_true, Bool.true_or, Bool.false_or, Bool.or_false, List.isEmpty_nil, List.isEmpty_cons, List.nodup_nil, decide_true, Bool.false_eq_true, true_and, and_true, Nat.zero_add, Nat.reduceAdd, Nat.reduceSub, Nat.reduceLT, Option.bind_eq_bind, Option.pure_def]
  exact hQ
theorem e_numbers {cs : List Int} {a b : Int} {kept : List Int} {many : Nat} {low high : Int} {tot : Option Int} {Q : Fo → Prop} (h0 : 0 ≤ a) (h1 : a ≤ 2 ^ 29) (hcs : cs.length ≤ 63) (c : CaseS kept many low high tot)
    (hQ : ∀ (ns : List Int) (a' b' : Int), (∀ x ∈ ns, -(10 ^ 38) ≤ x ∧ x ≤ 10 ^ 38) → 0 ≤ a' → a' ≤ a + 2 → Q (.ret (.lst (ns.map fun n => .dat (.int n))) [feedT cs a' b', .dat (caseD kept many low high tot)])) :
    WF F_law_e_numbers [feedT cs a b, .dat (caseD kept many low high tot)] Q := by
  unfold F_law_e_numbers
  rw [w_fn (by rfl)]
  unfold g_law_e_numbers
  have kl := c.kl
  have lb := c.lb
  have hb := c.hb
  have hl := c.hl
  have lh := c.lh
  have kb := c.kb
  have pw30 : ((10 : Int) ^ (30 : Int).toNat) = 10 ^ 30 := rfl
  have p30 : cPow 10 30 = true := by decide
  have rn : (high + 3 - (low - 2)).toNat ≤ 2 ^ 24 := by omega
  have er : rngD (low - 2) (high + 3 - (low - 2)).toNat = ((List.range (high + 3 - (low - 2)).toNat).map fun i : Nat => low - 2 + (i : Int)).map .int := by unfold rngD; rw [List.map_map]; rfl
  have rb : ∀ x ∈ (List.range (high + 3 - (low - 2)).toNat).map (fun i : Nat => low - 2 + (i : Int)), -(10 ^ 31) ≤ x ∧ x ≤ 10 ^ 31 := fun x hx => by
    obtain ⟨i, hi, rfl⟩ := List.mem_map.mp hx
    have := List.mem_range.mp hi
    omega
  have rll : ((List.range (high + 3 - (low - 2)).toNat).map (fun i : Nat => low - 2 + (i : Int))).length ≤ 9 := by rw [List.length_map, List.length_range]; omega
  generalize ((List.range (high + 3 - (low - 2)).toNat).map (fun i : Nat => low - 2 + (i : Int))) = rs at er rb rll
  have l1 : rs.length + (kept.take (3 : Int).toNat).length ≤ sizeLine := sz_of (by rw [List.length_take]; omega)
  have l2 : (kept.take (2 : Int).toNat).length ≤ sizeLine := sz_of (by rw [List.length_take]; omega)
  have ap : rs.map PyData.int ++ (kept.take (3 : Int).toNat).map PyData.int = (rs ++ kept.take (3 : Int).toNat).map .int := List.map_append.symm
  simp only [caseD, pw30, rn, er, cutL_map, toDs_map, toDs_ints, allDat_map, allDat_ints, eqv_ints, sh_ints, sh_nil, eqv_nil, sz_0, sz_1, sz_2, sz_3, sz_4, sz_5, sz_6, sz_7, sz_8, sz_9, sz_10, sz_11, sz_12, sz_13, sz_14, sz_15, sz_16, sz_17, sz_18, sz_19, sz_20, sz_21, sz_22, sz_23, sz_24, sz_25, sz_26, sz_27, sz_28, sz_29, sz_30, sz_31, sz_32, sz_33, sz_34, sz_35, sz_36, sz_37, sz_38, sz_39, sz_40, decide_eq_true_eq, Int.reduceLT, Int.reduceLE, Nat.reduceLeDiff, feedT, nd_one, at2_0, at2_1, at3_0, at3_1, at3_2, ix3_1, ix3_2, set3_1, set3_2, ↓VS.w_var, ↓VS.w_mv, ↓VS.w_c, ↓VS.w_2, ↓VS.w_and, ↓VS.w_or, ↓VS.w_not, ↓VS.w_if, ↓VS.w_ch, ↓VS.w_neg, ↓VS.w_fz, ↓VS.w_nil, ↓VS.w_cons, ↓VS.w_amut, ↓VS.w_disp, ↓VS.w_b, ↓VS.w_isi, ↓VS.w_call, ↓VS.w_rev, ↓VS.w_sl, ↓VS.w_mut, ↓VS.w_snil, ↓VS.w_seq, ↓VS.w_set, ↓VS.w_ret, ↓VS.w_expr, ↓VS.w_asg, ↓VS.w_sto, ↓VS.w_for, ↓VS.w_iof, ↓VS.w_rng, ↓VS.w_isx, ↓VS.w_efn, ↓VS.w_try, ↓VS.w_raise, ↓VS.w_m, ↓VS.w_callV, ↓VS.w_comp, ↓VS.w_yes, ↓VS.wO_some, ↓VS.wO_none, ↓VS.wO_map, ↓VS.wO_ite, VS.kMv, VS.k2b, VS.k2, VS.kQ, VS.kAnd, VS.kOr, VS.kNot, VS.kIf, VS.kChc, VS.kChb, VS.kCh, VS.kNeg, VS.frzV, VS.kFz, VS.kConsB, VS.kCons, VS.kMutA, VS.kUn, VS.kDisp, VS.kB, VS.kIsi, VS.kFo, VS.kCall, VS.kRev, VS.kPartB, VS.kPart, VS.kSlc, VS.kSlb, VS.kSl, VS.kMutT, VS.kMutR, VS.kSeq, VS.kSet, VS.kRet, VS.kExpr, VS.kIfS, VS.kAsg, VS.kStoT, VS.kStoI, VS.kSto, VS.kFor, VS.kOf, VS.kRng, VS.kFn, VS.kCompQ, VS.kComp, VS.kIsx, VS.kTry, VS.exName, VS.kM, VS.kMb, VS.kCv, VS.frz, VS.on1, VS.on2, VS.oErr, VS.opSl, VS.opRev, VS.isL, VS.isDc, VS.moAppend, VS.stL, VS.keeps, VS.keep, VS.mkTup, VS.allDat, VS.mkV, VS.pD, VS.pL, VS.pTu, VS.pI, VS.pB, VS.PV.tr, VS.PV.held, VS.toD, VS.toDs, VS.elems, VS.telems, VS.opI, VS.opB, VS.opAdd, VS.opEq, VS.opNe, VS.opIs, VS.opIsNot, VS.isNonT, VS.opIx, VS.subT, VS.datV, VS.ms, VS.noVw, VS.arT, VS.arTs, VS.okM, VS.putM, VS.unM, VS.valsA, VS.argsOut, VS.gNm, VS.gTp, VS.gEach, VS.kidsT, VS.tyT, VS.isTy, VS.bLen, VS.seqN, VS.seqD, VS.bList, VS.bRepr, VS.inR, VS.bSum2, VS.pTi, VS.bIndex, VS.bCount, VS.isLi, VS.opRg, VS.sh_int, VS.sh_bl, VS.sh_str, VS.sh_non, VS.eqv_int, VS.eqv_bl, VS.eqv_str, List.getElem?_cons_zero, List.getElem?_cons_succ, List.length_cons, List.length_nil, List.set_cons_zero, List.set_cons_succ, List.replicate_succ, List.replicate_zero, List.cons_append, List.nil_append, List.map_cons, List.map_nil, Option.map_some, Option.map_none, Option.bind_some, Option.bind_none, if_true, if_false, Bool.true_and, Bool.and_true, Bool.false_and, Bool.and_false, Bool.or_true, Bool.true_or, Bool.false_or, Bool.or_false, List.isEmpty_nil, List.isEmpty_cons, List.nodup_nil, decide_true, Bool.false_eq_true, true_and, and_true, Nat.zero_add, Nat.reduceAdd, Nat.reduceSub, Nat.reduceLT, Option.bind_eq_bind, Option.pure_def]
  rw [cutL_to _ (by decide : (0 : Int) ≤ 3), cutL_to _ (by decide : (0 : Int) ≤ 2)]
  simp only [l1, l2, ap, List.length_map, wipeE, calmT, List.getD_cons_zero, List.getD_cons_succ, List.all_cons, List.all_nil, toDs_map, toDs_ints, allDat_map, allDat_ints, eqv_ints, sh_ints, sh_nil, eqv_nil, sz_0, sz_1, sz_2, sz_3, sz_4, sz_5, sz_6, sz_7, sz_8, sz_9, sz_10, sz_11, sz_12, sz_13, sz_14, sz_15, sz_16, sz_17, sz_18, sz_19, sz_20, sz_21, sz_22, sz_23, sz_24, sz_25, sz_26, sz_27, sz_28, sz_29, sz_30, sz_31, sz_32, sz_33, sz_34, sz_35, sz_36, sz_37, sz_38, sz_39, sz_40, decide_eq_true_eq, Int.reduceLT, Int.reduceLE, Nat.reduceLeDiff, feedT, nd_one, at2_0, at2_1, at3_0, at3_1, at3_2, ix3_1, ix3_2, set3_1, set3_2, ↓VS.w_var, ↓VS.w_mv, ↓VS.w_c, ↓VS.w_2, ↓VS.w_and, ↓VS.w_or, ↓VS.w_not, ↓VS.w_if, ↓VS.w_ch, ↓VS.w_neg, ↓VS.w_fz, ↓VS.w_nil, ↓VS.w_cons, ↓VS.w_amut, ↓VS.w_disp, ↓VS.w_b, ↓VS.w_isi, ↓VS.w_call, ↓VS.w_rev, ↓VS.w_sl, ↓VS.w_mut, ↓VS.w_snil, ↓VS.w_seq, ↓VS.w_set, ↓VS.w_ret, ↓VS.w_expr, ↓VS.w_asg, ↓VS.w_sto, ↓VS.w_for, ↓VS.w_iof, ↓VS.w_rng, ↓VS.w_isx, ↓VS.w_efn, ↓VS.w_try, ↓VS.w_raise, ↓VS.w_m, ↓VS.w_callV, ↓VS.w_comp, ↓VS.w_yes, ↓VS.wO_some, ↓VS.wO_none, ↓VS.wO_map, ↓VS.wO_ite, VS.kMv, VS.k2b, VS.k2, VS.kQ, VS.kAnd, VS.kOr, VS.kNot, VS.kIf, VS.kChc, VS.kChb, VS.kCh, VS.kNeg, VS.frzV, VS.kFz, VS.kConsB, VS.kCons, VS.kMutA, VS.kUn, VS.kDisp, VS.kB, VS.kIsi, VS.kFo, VS.kCall, VS.kRev, VS.kPartB, VS.kPart, VS.kSlc, VS.kSlb, VS.kSl, VS.kMutT, VS.kMutR, VS.kSeq, VS.kSet, VS.kRet, VS.kExpr, VS.kIfS, VS.kAsg, VS.kStoT, VS.kStoI, VS.kSto, VS.kFor, VS.kOf, VS.kRng, VS.kFn, VS.kCompQ, VS.kComp, VS.kIsx, VS.kTry, VS.exName, VS.kM, VS.kMb, VS.kCv, VS.frz, VS.on1, VS.on2, VS.oErr, VS.opSl, VS.opRev, VS.isL, VS.isDc, VS.moAppend, VS.stL, VS.keeps, VS.keep, VS.mkTup, VS.allDat, VS.mkV, VS.pD, VS.pL, VS.pTu, VS.pI, VS.pB, VS.PV.tr, VS.PV.held, VS.toD, VS.toDs, VS.elems, VS.telems, VS.opI, VS.opB, VS.opAdd, VS.opEq, VS.opNe, VS.opIs, VS.opIsNot, VS.isNonT, VS.opIx, VS.subT, VS.datV, VS.ms, VS.noVw, VS.arT, VS.arTs, VS.okM, VS.putM, VS.unM, VS.valsA, VS.argsOut, VS.gNm, VS.gTp, VS.gEach, VS.kidsT, VS.tyT, VS.isTy, VS.bLen, VS.seqN, VS.seqD, VS.bList, VS.bRepr, VS.inR, VS.bSum2, VS.pTi, VS.bIndex, VS.bCount, VS.isLi, VS.opRg, VS.sh_int, VS.sh_bl, VS.sh_str, VS.sh_non, VS.eqv_int, VS.eqv_bl, VS.eqv_str, List.getElem?_cons_zero, List.getElem?_cons_succ, List.length_cons, List.length_nil, List.set_cons_zero, List.set_cons_succ, List.replicate_succ, List.replicate_zero, List.cons_append, List.nil_append, List.map_cons, List.map_nil, Option.map_some, Option.map_none, Option.bind_some, Option.bind_none, if_true, if_false, Bool.true_and, Bool.and_true, Bool.false_and, Bool.and_false, Bool.or_true, Bool.true_or, Bool.false_or, Bool.or_false, List.isEmpty_nil, List.isEmpty_cons, List.nodup_nil, decide_true, Bool.false_eq_true, true_and, and_true, Nat.zero_add, Nat.reduceAdd, Nat.reduceSub, Nat.reduceLT, Option.bind_eq_bind, Option.pure_def]
  refine wc_ints (fun _ => true) (fun v => v + 1) rfl (fun n hn => ⟨_, rfl, rfl, ?_, fun _ => ?_⟩) ?_
  · simp only [toDs_map, toDs_ints, allDat_map, allDat_ints, eqv_ints, sh_ints, sh_nil, eqv_nil, sz_0, sz_1, sz_2, sz_3, sz_4, sz_5, sz_6, sz_7, sz_8, sz_9, sz_10, sz_11, sz_12, sz_13, sz_14, sz_15, sz_16, sz_17, sz_18, sz_19, sz_20, sz_21, sz_22, sz_23, sz_24, sz_25, sz_26, sz_27, sz_28, sz_29, sz_30, sz_31, sz_32, sz_33, sz_34, sz_35, sz_36, sz_37, sz_38, sz_39, sz_40, decide_eq_true_eq, Int.reduceLT, Int.reduceLE, Nat.reduceLeDiff, feedT, nd_one, at2_0, at2_1, at3_0, at3_1, at3_2, ix3_1, ix3_2, set3_1, set3_2, ↓VS.w_var, ↓VS.w_mv, ↓VS.w_c, ↓VS.w_2, ↓VS.w_and, ↓VS.w_or, ↓VS.w_not, ↓VS.w_if, ↓VS.w_ch, ↓VS.w_neg, ↓VS.w_fz, ↓VS.w_nil, ↓VS.w_cons, ↓VS.w_amut, ↓VS.w_disp, ↓VS.w_b, ↓VS.w_isi, ↓VS.w_call, ↓VS.w_rev, ↓VS.w_sl, ↓VS.w_mut, ↓VS.w_snil, ↓VS.w_seq, ↓VS.w_set, ↓VS.w_ret, ↓VS.w_expr, ↓VS.w_ifs, ↓VS.w_asg, ↓VS.w_sto, ↓VS.w_for, ↓VS.w_iof, ↓VS.w_rng, ↓VS.w_isx, ↓VS.w_efn, ↓VS.w_try, ↓VS.w_raise, ↓VS.w_m, ↓VS.w_callV, ↓VS.w_comp, ↓VS.w_yes, ↓VS.wO_some, ↓VS.wO_none, ↓VS.wO_map, ↓VS.wO_ite, VS.kMv, VS.k2b, VS.k2, VS.kQ, VS.kAnd, VS.kOr, VS.kNot, VS.kIf, VS.kChc, VS.kChb, VS.kCh, VS.kNeg, VS.frzV, VS.kFz, VS.kConsB, VS.kCons, VS.kMutA, VS.kUn, VS.kDisp, VS.kB, VS.kIsi, VS.kFo, VS.kCall, VS.kRev, VS.kPartB, VS.kPart, VS.kSlc, VS.kSlb, VS.kSl, VS.kMutT, VS.kMutR, VS.kSeq, VS.kSet, VS.kRet, VS.kExpr, VS.kIfS, VS.kAsg, VS.kStoT, VS.kStoI, VS.kSto, VS.kFor, VS.kOf, VS.kRng, VS.kFn, VS.kCompQ, VS.kComp, VS.kIsx, VS.kTry, VS.exName, VS.kM, VS.kMb, VS.kCv, VS.frz, VS.on1, VS.on2, VS.oErr, VS.opSl, VS.opRev, VS.isL, VS.isDc, VS.moAppend, VS.stL, VS.keeps, VS.keep, VS.mkTup, VS.allDat, VS.mkV, VS.pD, VS.pL, VS.pTu, VS.pI, VS.pB, VS.PV.tr, VS.PV.held, VS.toD, VS.toDs, VS.elems, VS.telems, VS.opI, VS.opB, VS.opAdd, VS.opEq, VS.opNe, VS.opIs, VS.opIsNot, VS.isNonT, VS.opIx, VS.subT, VS.datV, VS.ms, VS.noVw, VS.arT, VS.arTs, VS.okM, VS.putM, VS.unM, VS.valsA, VS.argsOut, VS.gNm, VS.gTp, VS.gEach, VS.kidsT, VS.tyT, VS.isTy, VS.bLen, VS.seqN, VS.seqD, VS.bList, VS.bRepr, VS.inR, VS.bSum2, VS.pTi, VS.bIndex, VS.bCount, VS.isLi, VS.opRg, VS.sh_int, VS.sh_bl, VS.sh_str, VS.sh_non, VS.eqv_int, VS.eqv_bl, VS.eqv_str, List.getElem?_cons_zero, List.getElem?_cons_succ, List.length_cons, List.length_nil, List.set_cons_zero, List.set_cons_succ, List.replicate_succ, List.replicate_zero, List.cons_append, List.nil_append, List.map_cons, List.map_nil, Option.map_some, Option.map_none, Option.bind_some, Option.bind_none, if_true, if_false, Bool.true_and, Bool.and_true, Bool.false_and, Bool.and_false, Bool.or_true, Bool.true_or, Bool.false_or, Bool.or_false, List.isEmpty_nil, List.isEmpty_cons, List.nodup_nil, decide_true, Bool.false_eq_true, true_and, and_true, Nat.zero_add, Nat.reduceAdd, Nat.reduceSub, Nat.reduceLT, Option.bind_eq_bind, Option.pure_def]; exact ⟨_, rfl, rfl⟩
  · simp only [toDs_map, toDs_ints, allDat_map, allDat_ints, eqv_ints, sh_ints, sh_nil, eqv_nil, sz_0, sz_1, sz_2, sz_3, sz_4, sz_5, sz_6, sz_7, sz_8, sz_9, sz_10, sz_11, sz_12, sz_13, sz_14, sz_15, sz_16, sz_17, sz_18, sz_19, sz_20, sz_21, sz_22, sz_23, sz_24, sz_25, sz_26, sz_27, sz_28, sz_29, sz_30, sz_31, sz_32, sz_33, sz_34, sz_35, sz_36, sz_37, sz_38, sz_39, sz_40, decide_eq_true_eq, Int.reduceLT, Int.reduceLE, Nat.reduceLeDiff, feedT, nd_one, at2_0, at2_1, at3_0, at3_1, at3_2, ix3_1, ix3_2, set3_1, set3_2, ↓VS.w_var, ↓VS.w_mv, ↓VS.w_c, ↓VS.w_2, ↓VS.w_and, ↓VS.w_or, ↓VS.w_not, ↓VS.w_if, ↓VS.w_ch, ↓VS.w_neg, ↓VS.w_fz, ↓VS.w_nil, ↓VS.w_cons, ↓VS.w_amut, ↓VS.w_disp, ↓VS.w_b, ↓VS.w_isi, ↓VS.w_call, ↓VS.w_rev, ↓VS.w_sl, ↓VS.w_mut, ↓VS.w_snil, ↓VS.w_seq, ↓VS.w_set, ↓VS.w_ret, ↓VS.w_expr, ↓VS.w_ifs, ↓VS.w_asg, ↓VS.w_sto, ↓VS.w_for, ↓VS.w_iof, ↓VS.w_rng, ↓VS.w_isx, ↓VS.w_efn, ↓VS.w_try, ↓VS.w_raise, ↓VS.w_m, ↓VS.w_callV, ↓VS.w_comp, ↓VS.w_yes, ↓VS.wO_some, ↓VS.wO_none, ↓VS.wO_map, ↓VS.wO_ite, VS.kMv, VS.k2b, VS.k2, VS.kQ, VS.kAnd, VS.kOr, VS.kNot, VS.kIf, VS.kChc, VS.kChb, VS.kCh, VS.kNeg, VS.frzV, VS.kFz, VS.kConsB, VS.kCons, VS.kMutA, VS.kUn, VS.kDisp, VS.kB, VS.kIsi, VS.kFo, VS.kCall, VS.kRev, VS.kPartB, VS.kPart, VS.kSlc, VS.kSlb, VS.kSl, VS.kMutT, VS.kMutR, VS.kSeq, VS.kSet, VS.kRet, VS.kExpr, VS.kIfS, VS.kAsg, VS.kStoT, VS.kStoI, VS.kSto, VS.kFor, VS.kOf, VS.kRng, VS.kFn, VS.kCompQ, VS.kComp, VS.kIsx, VS.kTry, VS.exName, VS.kM, VS.kMb, VS.kCv, VS.frz, VS.on1, VS.on2, VS.oErr, VS.opSl, VS.opRev, VS.isL, VS.isDc, VS.moAppend, VS.stL, VS.keeps, VS.keep, VS.mkTup, VS.allDat, VS.mkV, VS.pD, VS.pL, VS.pTu, VS.pI, VS.pB, VS.PV.tr, VS.PV.held, VS.toD, VS.toDs, VS.elems, VS.telems, VS.opI, VS.opB, VS.opAdd, VS.opEq, VS.opNe, VS.opIs, VS.opIsNot, VS.isNonT, VS.opIx, VS.subT, VS.datV, VS.ms, VS.noVw, VS.arT, VS.arTs, VS.okM, VS.putM, VS.unM, VS.valsA, VS.argsOut, VS.gNm, VS.gTp, VS.gEach, VS.kidsT, VS.tyT, VS.isTy, VS.bLen, VS.seqN, VS.seqD, VS.bList, VS.bRepr, VS.inR, VS.bSum2, VS.pTi, VS.bIndex, VS.bCount, VS.isLi, VS.opRg, VS.sh_int, VS.sh_bl, VS.sh_str, VS.sh_non, VS.eqv_int, VS.eqv_bl, VS.eqv_str, List.getElem?_cons_zero, List.getElem?_cons_succ, List.length_cons, List.length_nil, List.set_cons_zero, List.set_cons_succ, List.replicate_succ, List.replicate_zero, List.cons_append, List.nil_append, List.map_cons, List.map_nil, Option.map_some, Option.map_none, Option.bind_some, Option.bind_none, if_true, if_false, Bool.true_and, Bool.and_true, Bool.false_and, Bool.and_false, Bool.or_true, Bool.true_or, Bool.false_or, Bool.or_false, List.isEmpty_nil, List.isEmpty_cons, List.nodup_nil, decide_true, Bool.false_eq_true, true_and, and_true, Nat.zero_add, Nat.reduceAdd, Nat.reduceSub, Nat.reduceLT, Option.bind_eq_bind, Option.pure_def]; exact ⟨_, rfl, rfl⟩
  rw [filter_tt, List.nil_append]
  obtain ⟨xs, ex, exl, exb⟩ : ∃ xs : List Int, (kept.take (2 : Int).toNat).map (fun v => v + 1) = xs ∧ xs.length ≤ 2 ∧ ∀ x ∈ xs, -(10 ^ 31) ≤ x ∧ x ≤ 10 ^ 31 := by
    refine ⟨_, rfl, by rw [List.length_map, List.length_take]; omega, fun x hx => ?_⟩
    obtain ⟨y, hy, rfl⟩ := List.mem_map.mp hx
    have := kb y (List.mem_of_mem_take hy)
    omega
  rw [ex]
  have tk3 : (kept.take (3 : Int).toNat).length ≤ 3 := by rw [List.length_take]; omega
  have l3 : (rs ++ kept.take (3 : Int).toNat).length + xs.length ≤ sizeLine := sz_of (by rw [List.length_append]; omega)
  have ap2 : (rs ++ kept.take (3 : Int).toNat).map PyData.int ++ xs.map PyData.int = (rs ++ kept.take (3 : Int).toNat ++ xs).map .int := List.map_append.symm
  simp only [kCompQ, l3, ap2, List.length_map, p30, toDs_map, toDs_ints, allDat_map, allDat_ints, eqv_ints, sh_ints, sh_nil, eqv_nil, sz_0, sz_1, sz_2, sz_3, sz_4, sz_5, sz_6, sz_7, sz_8, sz_9, sz_10, sz_11, sz_12, sz_13, sz_14, sz_15, sz_16, sz_17, sz_18, sz_19, sz_20, sz_21, sz_22, sz_23, sz_24, sz_25, sz_26, sz_27, sz_28, sz_29, sz_30, sz_31, sz_32, sz_33, sz_34, sz_35, sz_36, sz_37, sz_38, sz_39, sz_40, decide_eq_true_eq, Int.reduceLT, Int.reduceLE, Nat.reduceLeDiff, feedT, nd_one, at2_0, at2_1, at3_0, at3_1, at3_2, ix3_1, ix3_2, set3_1, set3_2, ↓VS.w_var, ↓VS.w_mv, ↓VS.w_c, ↓VS.w_2, ↓VS.w_and, ↓VS.w_or, ↓VS.w_not, ↓VS.w_if, ↓VS.w_ch, ↓VS.w_neg, ↓VS.w_fz, ↓VS.w_nil, ↓VS.w_cons, ↓VS.w_amut, ↓VS.w_disp, ↓VS.w_b, ↓VS.w_isi, ↓VS.w_call, ↓VS.w_rev, ↓VS.w_sl, ↓VS.w_mut, ↓VS.w_snil, ↓VS.w_seq, ↓VS.w_set, ↓VS.w_ret, ↓VS.w_expr, ↓VS.w_asg, ↓VS.w_sto, ↓VS.w_for, ↓VS.w_iof, ↓VS.w_rng, ↓VS.w_isx, ↓VS.w_efn, ↓VS.w_try, ↓VS.w_raise, ↓VS.w_m, ↓VS.w_callV, ↓VS.w_comp, ↓VS.w_yes, ↓VS.wO_some, ↓VS.wO_none, ↓VS.wO_map, ↓VS.wO_ite, VS.kMv, VS.k2b, VS.k2, VS.kQ, VS.kAnd, VS.kOr, VS.kNot, VS.kIf, VS.kChc, VS.kChb, VS.kCh, VS.kNeg, VS.frzV, VS.kFz, VS.kConsB, VS.kCons, VS.kMutA, VS.kUn, VS.kDisp, VS.kB, VS.kIsi, VS.kFo, VS.kCall, VS.kRev, VS.kPartB, VS.kPart, VS.kSlc, VS.kSlb, VS.kSl, VS.kMutT, VS.kMutR, VS.kSeq, VS.kSet, VS.kRet, VS.kExpr, VS.kIfS, VS.kAsg, VS.kStoT, VS.kStoI, VS.kSto, VS.kFor, VS.kOf, VS.kRng, VS.kFn, VS.kCompQ, VS.kComp, VS.kIsx, VS.kTry, VS.exName, VS.kM, VS.kMb, VS.kCv, VS.frz, VS.on1, VS.on2, VS.oErr, VS.opSl, VS.opRev, VS.isL, VS.isDc, VS.moAppend, VS.stL, VS.keeps, VS.keep, VS.mkTup, VS.allDat, VS.mkV, VS.pD, VS.pL, VS.pTu, VS.pI, VS.pB, VS.PV.tr, VS.PV.held, VS.toD, VS.toDs, VS.elems, VS.telems, VS.opI, VS.opB, VS.opAdd, VS.opEq, VS.opNe, VS.opIs, VS.opIsNot, VS.isNonT, VS.opIx, VS.subT, VS.datV, VS.ms, VS.noVw, VS.arT, VS.arTs, VS.okM, VS.putM, VS.unM, VS.valsA, VS.argsOut, VS.gNm, VS.gTp, VS.gEach, VS.kidsT, VS.tyT, VS.isTy, VS.bLen, VS.seqN, VS.seqD, VS.bList, VS.bRepr, VS.inR, VS.bSum2, VS.pTi, VS.bIndex, VS.bCount, VS.isLi, VS.opRg, VS.sh_int, VS.sh_bl, VS.sh_str, VS.sh_non, VS.eqv_int, VS.eqv_bl, VS.eqv_str, List.getElem?_cons_zero, List.getElem?_cons_succ, List.length_cons, List.length_nil, List.set_cons_zero, List.set_cons_succ, List.replicate_succ, List.replicate_zero, List.cons_append, List.nil_append, List.map_cons, List.map_nil, Option.map_some, Option.map_none, Option.bind_some, Option.bind_none, if_true, if_false, Bool.true_and, Bool.and_true, Bool.false_and, Bool.and_false, Bool.or_true, Bool.true_or, Bool.false_or, Bool.or_false, List.isEmpty_nil, List.isEmpty_cons, List.nodup_nil, decide_true, Bool.false_eq_true, true_and, and_true, Nat.zero_add, Nat.reduceAdd, Nat.reduceSub, Nat.reduceLT, Option.bind_eq_bind, Option.pure_def]
  refine e_take h0 (by omega) hcs (by decide) (by decide) fun v7 a7 b7 p7 q7 r7 t7 => ?_
  have l4 : (rs ++ kept.take (3 : Int).toNat ++ xs).length + 3 ≤ sizeLine := sz_of (by rw [List.length_append, List.length_append]; omega)
  have fin := hQ (rs ++ kept.take (3 : Int).toNat ++ xs ++ [10 ^ 30, 0 - 10 ^ 30, low + v7 - 20]) a7 b7 (fun x hx => ?_) r7 (by omega)
  · simp only [pw30, l4, List.length_map, toDs_map, toDs_ints, allDat_map, allDat_ints, eqv_ints, sh_ints, sh_nil, eqv_nil, sz_0, sz_1, sz_2, sz_3, sz_4, sz_5, sz_6, sz_7, sz_8, sz_9, sz_10, sz_11, sz_12, sz_13, sz_14, sz_15, sz_16, sz_17, sz_18, sz_19, sz_20, sz_21, sz_22, sz_23, sz_24, sz_25, sz_26, sz_27, sz_28, sz_29, sz_30, sz_31, sz_32, sz_33, sz_34, sz_35, sz_36, sz_37, sz_38, sz_39, sz_40, decide_eq_true_eq, Int.reduceLT, Int.reduceLE, Nat.reduceLeDiff, feedT, nd_one, at2_0, at2_1, at3_0, at3_1, at3_2, ix3_1, ix3_2, set3_1, set3_2, ↓VS.w_var, ↓VS.w_mv, ↓VS.w_c, ↓VS.w_2, ↓VS.w_and, ↓VS.w_or, ↓VS.w_not, ↓VS.w_if, ↓VS.w_ch, ↓VS.w_neg, ↓VS.w_fz, ↓VS.w_nil, ↓VS.w_cons, ↓VS.w_amut, ↓VS.w_disp, ↓VS.w_b, ↓VS.w_isi, ↓VS.w_call, ↓VS.w_rev, ↓VS.w_sl, ↓VS.w_mut, ↓VS.w_snil, ↓VS.w_seq, ↓VS.w_set, ↓VS.w_ret, ↓VS.w_expr, ↓VS.w_ifs, ↓VS.w_asg, ↓VS.w_sto, ↓VS.w_for, ↓VS.w_iof, ↓VS.w_rng, ↓VS.w_isx, ↓VS.w_efn, ↓VS.w_try, ↓VS.w_raise, ↓VS.w_m, ↓VS.w_callV, ↓VS.w_comp, ↓VS.w_yes, ↓VS.wO_some, ↓VS.wO_none, ↓VS.wO_map, ↓VS.wO_ite, VS.kMv, VS.k2b, VS.k2, VS.kQ, VS.kAnd, VS.kOr, VS.kNot, VS.kIf, VS.kChc, VS.kChb, VS.kCh, VS.kNeg, VS.frzV, VS.kFz, VS.kConsB, VS.kCons, VS.kMutA, VS.kUn, VS.kDisp, VS.kB, VS.kIsi, VS.kFo, VS.kCall, VS.kRev, VS.kPartB, VS.kPart, VS.kSlc, VS.kSlb, VS.kSl, VS.kMutT, VS.kMutR, VS.kSeq, VS.kSet, VS.kRet, VS.kExpr, VS.kIfS, VS.kAsg, VS.kStoT, VS.kStoI, VS.kSto, VS.kFor, VS.kOf, VS.kRng, VS.kFn, VS.kCompQ, VS.kComp, VS.kIsx, VS.kTry, VS.exName, VS.kM, VS.kMb, VS.kCv, VS.frz, VS.on1, VS.on2, VS.oErr, VS.opSl, VS.opRev, VS.isL, VS.isDc, VS.moAppend, VS.stL, VS.keeps, VS.keep, VS.mkTup, VS.allDat, VS.mkV, VS.pD, VS.pL, VS.pTu, VS.pI, VS.pB, VS.PV.tr, VS.PV.held, VS.toD, VS.toDs, VS.elems, VS.telems, VS.opI, VS.opB, VS.opAdd, VS.opEq, VS.opNe, VS.opIs, VS.opIsNot, VS.isNonT, VS.opIx, VS.subT, VS.datV, VS.ms, VS.noVw, VS.arT, VS.arTs, VS.okM, VS.putM, VS.unM, VS.valsA, VS.argsOut, VS.gNm, VS.gTp, VS.gEach, VS.kidsT, VS.tyT, VS.isTy, VS.bLen, VS.seqN, VS.seqD, VS.bList, VS.bRepr, VS.inR, VS.bSum2, VS.pTi, VS.bIndex, VS.bCount, VS.isLi, VS.opRg, VS.sh_int, VS.sh_bl, VS.sh_str, VS.sh_non, VS.eqv_int, VS.eqv_bl, VS.eqv_str, List.getElem?_cons_zero, List.getElem?_cons_succ, List.length_cons, List.length_nil, List.set_cons_zero, List.set_cons_succ, List.replicate_succ, List.replicate_zero, List.cons_append, List.nil_append, List.map_cons, List.map_nil, Option.map_some, Option.map_none, Option.bind_some, Option.bind_none, if_true, if_false, Bool.true_and, Bool.and_true, Bool.false_and, Bool.and_false, Bool.or_true, Bool.true_or, Bool.false_or, Bool.or_false, List.isEmpty_nil, List.isEmpty_cons, List.nodup_nil, decide_true, Bool.false_eq_true, true_and, and_true, Nat.zero_add, Nat.reduceAdd, Nat.reduceSub, Nat.reduceLT, Option.bind_eq_bind, Option.pure_def]
    simp only [List.map_append, List.map_cons, List.map_nil, List.map_map] at fin ⊢
    exact fin
  · rcases List.mem_append.mp hx with hx | hx
    · rcases List.mem_append.mp hx with hx | hx
      · rcases List.mem_append.mp hx with hx | hx
        · have := rb x hx; omega
        · have := kb x (List.mem_of_mem_take hx); omega
      · have := exb x hx; omega
    · simp only [List.mem_cons, List.not_mem_nil, or_false] at hx
      rcases hx with rfl | rfl | rfl <;> omega
end k62

set_option Elab.async false
set_option linter.all false
set_option maxRecDepth 100000
set_option backward.isDefEq.respectTransparency false
set_option maxHeartbeats 4000000
namespace k62
open PySem PySem.Spec VS PM
theorem deal_none {many : Nat} {low high : Int} {tot : Option Int} (h : ¬ Can many low high tot) : dealT many low high tot = [] := by
  apply List.eq_nil_iff_forall_not_mem.mpr
  intro t ht
  obtain ⟨a, b, c, d⟩ := mem_dealT.mp ht
  apply h
  intro s hs
  have e := d s hs
  have h1 := sum_ge (low := low) fun v hv => (c v hv).1
  have h2 := sum_le (high := high) fun v hv => (c v hv).2
  rw [b] at h1 h2
  omega
theorem meant_le {many : Nat} {low high : Int} {tot : Option Int} {t : List Int} (ht : t ∈ dealT many low high tot) : meantT tot many low high false ≤ t.sum ∧ t.sum ≤ meantT tot many low high true := by
  obtain ⟨a, b, c, d⟩ := mem_dealT.mp ht
  have h1 := sum_ge (low := low) fun v hv => (c v hv).1
  have h2 := sum_le (high := high) fun v hv => (c v hv).2
  rw [b] at h1 h2
  unfold meantT
  cases tot with
  | none => simp; omega
  | some s => have := d s rfl; simp; omega
theorem deal_in {many : Nat} {low high : Int} {tot : Option Int} {t : List Int} (hl : t.length = many) (hb : ∀ v ∈ t, low ≤ v ∧ v ≤ high) (hs : ∀ s, tot = some s → t.sum = s) : VS.sortI t ∈ dealT many low high tot := by
  have p := sortI_perm t
  exact mem_dealT.mpr ⟨sortI_up t, by rw [p.length_eq, hl], fun v hv => hb v (p.mem_iff.mp hv), fun s e => by rw [perm_sum p]; exact hs s e⟩
/-- the fewest of all dealings -/
theorem few_all {kept : List Int} {many : Nat} {low high : Int} {tot : Option Int} {x : Int} (c : Case kept many low high tot) :
    (∃ t ∈ dealT many low high tot, (ov x t : Int) = leastOver many low high (meantT tot many low high false) x) ∧ ∀ t ∈ dealT many low high tot, leastOver many low high (meantT tot many low high false) x ≤ ov x t := by
  obtain ⟨m1, m2⟩ := c.meant false
  constructor
  · obtain ⟨t, h1, h2, h3, h4⟩ := deal_few x c.lh m1 m2
    refine ⟨VS.sortI t, deal_in h1 h2 fun s hs => ?_, by rw [ov_perm (sortI_perm t)]; exact h4⟩
    rw [h3, hs]; rfl
  · intro t ht
    obtain ⟨a, b, d, e⟩ := mem_dealT.mp ht
    have := deal_least (x := x) (meant_le ht).1 d
    rw [b] at this
    exact this
/-- the most of all dealings -/
theorem most_all {kept : List Int} {many : Nat} {low high : Int} {tot : Option Int} {x : Int} (c : Case kept many low high tot) :
    (∃ t ∈ dealT many low high tot, (ov x t : Int) = many - leastOver many (0 - high) (0 - low) (0 - meantT tot many low high true) (1 - x)) ∧ ∀ t ∈ dealT many low high tot, (ov x t : Int) ≤ many - leastOver many (0 - high) (0 - low) (0 - meantT tot many low high true) (1 - x) := by
  have k := (c.kc true).neg
  have flip : ∀ u : List Int, (ov (1 - x) (u.map fun v => 0 - v) : Int) = u.length - ov x u := fun u => by
    rw [ov_neg, show 0 - (1 - x) = x - 1 by omega]
    have := ov_un (x := x) u
    omega
  constructor
  · obtain ⟨t, h1, h2, h3, h4⟩ := deal_few (1 - x) k.lh k.t1 k.t2
    have hl : (neg t).length = many := by rw [neg_len, h1]
    refine ⟨VS.sortI (neg t), deal_in hl (fun v hv => ?_) fun s hs => ?_, ?_⟩
    · obtain ⟨w, hw, rfl⟩ := List.mem_map.mp hv
      have := h2 w hw
      omega
    · show (t.map fun v => 0 - v).sum = s
      rw [sum_neg, h3, hs]
      show 0 - (0 - s) = s
      omega
    · rw [ov_perm (sortI_perm _)]
      have e := flip (neg t)
      have e2 : (neg t).map (fun v => 0 - v) = t := by
        unfold neg
        rw [List.map_map]
        have : ((fun v : Int => 0 - v) ∘ fun v => 0 - v) = id := by funext v; simp
        rw [this, List.map_id]
      rw [e2, h4, hl] at e
      omega
  · intro t ht
    obtain ⟨a, b, d, e⟩ := mem_dealT.mp ht
    have hb : ∀ v ∈ t.map (fun v => 0 - v), 0 - high ≤ v ∧ v ≤ 0 - low := fun v hv => by
      obtain ⟨w, hw, rfl⟩ := List.mem_map.mp hv
      have := d w hw
      omega
    have hT : 0 - meantT tot many low high true ≤ (t.map fun v => 0 - v).sum := by
      rw [sum_neg]
      have := (meant_le ht).2
      omega
    have := deal_least (x := 1 - x) hT hb
    rw [flip t, List.length_map, b] at this
    omega
/-- all overs of all dealings: the least, the greatest -/
theorem overs_min {kept : List Int} {many : Nat} {low high : Int} {tot : Option Int} {x : Int} (c : Case kept many low high tot) :
    minI ((dealT many low high tot).map fun t => ((ov x (kept ++ t) : Nat) : Int)) = some (ov x kept + leastOver many low high (meantT tot many low high false) x) := by
  obtain ⟨⟨t, ht, e⟩, h⟩ := few_all (x := x) c
  cases hm : minI ((dealT many low high tot).map fun t => ((ov x (kept ++ t) : Nat) : Int)) with
  | none =>
    cases hd : dealT many low high tot with
    | nil => rw [hd] at ht; cases ht
    | cons a r => rw [hd] at hm; cases hm
  | some m =>
    obtain ⟨_, a, b⟩ := minI_is hm
    obtain ⟨u, hu, rfl⟩ := List.mem_map.mp a
    have h1 := b _ (List.mem_map.mpr ⟨t, ht, rfl⟩)
    have h2 := h u hu
    rw [ov_append, ov_append] at h1
    rw [ov_append]
    congr 1
    omega
theorem overs_max {kept : List Int} {many : Nat} {low high : Int} {tot : Option Int} {x : Int} (c : Case kept many low high tot) :
    maxI ((dealT many low high tot).map fun t => ((ov x (kept ++ t) : Nat) : Int)) = some (ov x kept + many - leastOver many (0 - high) (0 - low) (0 - meantT tot many low high true) (1 - x)) := by
  obtain ⟨⟨t, ht, e⟩, h⟩ := most_all (x := x) c
  cases hm : maxI ((dealT many low high tot).map fun t => ((ov x (kept ++ t) : Nat) : Int)) with
  | none =>
    cases hd : dealT many low high tot with
    | nil => rw [hd] at ht; cases ht
    | cons a r => rw [hd] at hm; cases hm
  | some m =>
    obtain ⟨_, a, b⟩ := maxI_is hm
    obtain ⟨u, hu, rfl⟩ := List.mem_map.mp a
    have h1 := b _ (List.mem_map.mpr ⟨t, ht, rfl⟩)
    have h2 := h u hu
    rw [ov_append, ov_append] at h1
    rw [ov_append]
    congr 1
    omega
end k62

set_option Elab.async false
set_option linter.all false
set_option maxRecDepth 100000
set_option backward.isDefEq.respectTransparency false
set_option maxHeartbeats 4000000
namespace k62
open PySem PySem.Spec VS PM
theorem smS (x : Str) (h1 : PyData.leavesShort 2000 (.str x) = true) (h2 : PyData.weight (.str x) ≤ 100) : Sm 0 201 (.str x) := ⟨h1, rfl, rfl, by simp [PyData.depth], Nat.le_trans h2 (by decide)⟩
theorem repr_told {a b : Int} (ha : a.natAbs < 2 ^ 200) (hb : b.natAbs < 2 ^ 200) : reprOk (.tuple [.str "told", .tuple [.int a, .int b]]) = true := by
  have p : Sm 1 404 (.tuple [.int a, .int b]) := Sm.tup (k := 0) (n := 201) (m := 2) (fun x hx => by
    simp only [List.mem_cons, List.not_mem_nil, or_false] at hx
    rcases hx with rfl | rfl
    · exact Sm.int ha
    · exact Sm.int hb) (by simp)
  refine (Sm.tup (k := 1) (n := 404) (m := 2) (fun x hx => ?_) (by simp)).repr (by decide) (by decide)
  simp only [List.mem_cons, List.not_mem_nil, or_false] at hx
  rcases hx with rfl | rfl
  · exact (smS "told" (by decide +kernel) (by decide +kernel)).mono (by decide) (by decide)
  · exact p
theorem repr_no : reprOk (.tuple [.str "dealing", .none]) = true := by
  refine (Sm.tup (k := 0) (n := 201) (m := 2) (fun x hx => ?_) (by simp)).repr (by decide) (by decide)
  simp only [List.mem_cons, List.not_mem_nil, or_false] at hx
  rcases hx with rfl | rfl
  · exact smS "dealing" (by decide +kernel) (by decide +kernel)
  · exact Sm.non.mono (by decide) (by decide)
theorem says : LawSays 63 F_law := by
  intro ns hns
  suffices h : WF F_law [.scr ns] (fun o => ∃ out, o = .ret (.dat (.bool true)) out) by
    obtain ⟨o, e, out, rfl⟩ := h
    exact ⟨out, e⟩
  unfold F_law
  rw [w_fn (by rfl)]
  unfold g_law
  have rng6 : rngD 0 (6 : Int).toNat = [.int 0, .int 1, .int 2, .int 3, .int 4, .int 5] := rfl
  simp only [toDs_map, toDs_ints, allDat_map, allDat_ints, eqv_ints, sh_ints, sh_nil, eqv_nil, sz_0, sz_1, sz_2, sz_3, sz_4, sz_5, sz_6, sz_7, sz_8, sz_9, sz_10, sz_11, sz_12, sz_13, sz_14, sz_15, sz_16, sz_17, sz_18, sz_19, sz_20, sz_21, sz_22, sz_23, sz_24, sz_25, sz_26, sz_27, sz_28, sz_29, sz_30, sz_31, sz_32, sz_33, sz_34, sz_35, sz_36, sz_37, sz_38, sz_39, sz_40, decide_eq_true_eq, Int.reduceLT, Int.reduceLE, Nat.reduceLeDiff, feedT, nd_one, at2_0, at2_1, at3_0, at3_1, at3_2, ix3_1, ix3_2, set3_1, set3_2, ↓VS.w_var, ↓VS.w_mv, ↓VS.w_c, ↓VS.w_2, ↓VS.w_and, ↓VS.w_or, ↓VS.w_not, ↓VS.w_if, ↓VS.w_ch, ↓VS.w_neg, ↓VS.w_fz, ↓VS.w_nil, ↓VS.w_cons, ↓VS.w_amut, ↓VS.w_disp, ↓VS.w_b, ↓VS.w_isi, ↓VS.w_call, ↓VS.w_rev, ↓VS.w_sl, ↓VS.w_mut, ↓VS.w_snil, ↓VS.w_seq, ↓VS.w_set, ↓VS.w_ret, ↓VS.w_expr, ↓VS.w_asg, ↓VS.w_sto, ↓VS.w_for, ↓VS.w_iof, ↓VS.w_rng, ↓VS.w_isx, ↓VS.w_efn, ↓VS.w_try, ↓VS.w_raise, ↓VS.w_m, ↓VS.w_callV, ↓VS.w_comp, ↓VS.w_yes, ↓VS.wO_some, ↓VS.wO_none, ↓VS.wO_map, ↓VS.wO_ite, VS.kMv, VS.k2b, VS.k2, VS.kQ, VS.kAnd, VS.kOr, VS.kNot, VS.kIf, VS.kChc, VS.kChb, VS.kCh, VS.kNeg, VS.frzV, VS.kFz, VS.kConsB, VS.kCons, VS.kMutA, VS.kUn, VS.kDisp, VS.kB, VS.kIsi, VS.kFo, VS.kCall, VS.kRev, VS.kPartB, VS.kPart, VS.kSlc, VS.kSlb, VS.kSl, VS.kMutT, VS.kMutR, VS.kSeq, VS.kSet, VS.kRet, VS.kExpr, VS.kIfS, VS.kAsg, VS.kStoT, VS.kStoI, VS.kSto, VS.kFor, VS.kOf, VS.kRng, VS.kFn, VS.kCompQ, VS.kComp, VS.kIsx, VS.kTry, VS.exName, VS.kM, VS.kMb, VS.kCv, VS.frz, VS.on1, VS.on2, VS.oErr, VS.opSl, VS.opRev, VS.isL, VS.isDc, VS.moAppend, VS.stL, VS.keeps, VS.keep, VS.mkTup, VS.allDat, VS.mkV, VS.pD, VS.pL, VS.pTu, VS.pI, VS.pB, VS.PV.tr, VS.PV.held, VS.toD, VS.toDs, VS.elems, VS.telems, VS.opI, VS.opB, VS.opAdd, VS.opEq, VS.opNe, VS.opIs, VS.opIsNot, VS.isNonT, VS.opIx, VS.subT, VS.datV, VS.ms, VS.noVw, VS.arT, VS.arTs, VS.okM, VS.putM, VS.unM, VS.valsA, VS.argsOut, VS.gNm, VS.gTp, VS.gEach, VS.kidsT, VS.tyT, VS.isTy, VS.bLen, VS.seqN, VS.seqD, VS.bList, VS.bRepr, VS.inR, VS.bSum2, VS.pTi, VS.bIndex, VS.bCount, VS.isLi, VS.opRg, VS.sh_int, VS.sh_bl, VS.sh_str, VS.sh_non, VS.eqv_int, VS.eqv_bl, VS.eqv_str, List.getElem?_cons_zero, List.getElem?_cons_succ, List.length_cons, List.length_nil, List.set_cons_zero, List.set_cons_succ, List.replicate_succ, List.replicate_zero, List.cons_append, List.nil_append, List.map_cons, List.map_nil, Option.map_some, Option.map_none, Option.bind_some, Option.bind_none, if_true, if_false, Bool.true_and, Bool.and_true, Bool.false_and, Bool.and_false, Bool.or_true, Bool.true_or, Bool.false_or, Bool.or_false, List.isEmpty_nil, List.isEmpty_cons, List.nodup_nil, decide_true, Bool.false_eq_true, true_and, and_true, Nat.zero_add, Nat.reduceAdd, Nat.reduceSub, Nat.reduceLT, Option.bind_eq_bind, Option.pure_def]
  refine e_pen fun cs hcs => ?_
  simp only [rng6, toDs_map, toDs_ints, allDat_map, allDat_ints, eqv_ints, sh_ints, sh_nil, eqv_nil, sz_0, sz_1, sz_2, sz_3, sz_4, sz_5, sz_6, sz_7, sz_8, sz_9, sz_10, sz_11, sz_12, sz_13, sz_14, sz_15, sz_16, sz_17, sz_18, sz_19, sz_20, sz_21, sz_22, sz_23, sz_24, sz_25, sz_26, sz_27, sz_28, sz_29, sz_30, sz_31, sz_32, sz_33, sz_34, sz_35, sz_36, sz_37, sz_38, sz_39, sz_40, decide_eq_true_eq, Int.reduceLT, Int.reduceLE, Nat.reduceLeDiff, feedT, nd_one, at2_0, at2_1, at3_0, at3_1, at3_2, ix3_1, ix3_2, set3_1, set3_2, ↓VS.w_var, ↓VS.w_mv, ↓VS.w_c, ↓VS.w_2, ↓VS.w_and, ↓VS.w_or, ↓VS.w_not, ↓VS.w_if, ↓VS.w_ch, ↓VS.w_neg, ↓VS.w_fz, ↓VS.w_nil, ↓VS.w_cons, ↓VS.w_amut, ↓VS.w_disp, ↓VS.w_b, ↓VS.w_isi, ↓VS.w_call, ↓VS.w_rev, ↓VS.w_sl, ↓VS.w_mut, ↓VS.w_snil, ↓VS.w_seq, ↓VS.w_set, ↓VS.w_ret, ↓VS.w_expr, ↓VS.w_asg, ↓VS.w_sto, ↓VS.w_for, ↓VS.w_iof, ↓VS.w_rng, ↓VS.w_isx, ↓VS.w_efn, ↓VS.w_try, ↓VS.w_raise, ↓VS.w_m, ↓VS.w_callV, ↓VS.w_comp, ↓VS.w_yes, ↓VS.wO_some, ↓VS.wO_none, ↓VS.wO_map, ↓VS.wO_ite, VS.kMv, VS.k2b, VS.k2, VS.kQ, VS.kAnd, VS.kOr, VS.kNot, VS.kIf, VS.kChc, VS.kChb, VS.kCh, VS.kNeg, VS.frzV, VS.kFz, VS.kConsB, VS.kCons, VS.kMutA, VS.kUn, VS.kDisp, VS.kB, VS.kIsi, VS.kFo, VS.kCall, VS.kRev, VS.kPartB, VS.kPart, VS.kSlc, VS.kSlb, VS.kSl, VS.kMutT, VS.kMutR, VS.kSeq, VS.kSet, VS.kRet, VS.kExpr, VS.kIfS, VS.kAsg, VS.kStoT, VS.kStoI, VS.kSto, VS.kFor, VS.kOf, VS.kRng, VS.kFn, VS.kCompQ, VS.kComp, VS.kIsx, VS.kTry, VS.exName, VS.kM, VS.kMb, VS.kCv, VS.frz, VS.on1, VS.on2, VS.oErr, VS.opSl, VS.opRev, VS.isL, VS.isDc, VS.moAppend, VS.stL, VS.keeps, VS.keep, VS.mkTup, VS.allDat, VS.mkV, VS.pD, VS.pL, VS.pTu, VS.pI, VS.pB, VS.PV.tr, VS.PV.held, VS.toD, VS.toDs, VS.elems, VS.telems, VS.opI, VS.opB, VS.opAdd, VS.opEq, VS.opNe, VS.opIs, VS.opIsNot, VS.isNonT, VS.opIx, VS.subT, VS.datV, VS.ms, VS.noVw, VS.arT, VS.arTs, VS.okM, VS.putM, VS.unM, VS.valsA, VS.argsOut, VS.gNm, VS.gTp, VS.gEach, VS.kidsT, VS.tyT, VS.isTy, VS.bLen, VS.seqN, VS.seqD, VS.bList, VS.bRepr, VS.inR, VS.bSum2, VS.pTi, VS.bIndex, VS.bCount, VS.isLi, VS.opRg, VS.sh_int, VS.sh_bl, VS.sh_str, VS.sh_non, VS.eqv_int, VS.eqv_bl, VS.eqv_str, List.getElem?_cons_zero, List.getElem?_cons_succ, List.length_cons, List.length_nil, List.set_cons_zero, List.set_cons_succ, List.replicate_succ, List.replicate_zero, List.cons_append, List.nil_append, List.map_cons, List.map_nil, Option.map_some, Option.map_none, Option.bind_some, Option.bind_none, if_true, if_false, Bool.true_and, Bool.and_true, Bool.false_and, Bool.and_false, Bool.or_true, Bool.true_or, Bool.false_or, Bool.or_false, List.isEmpty_nil, List.isEmpty_cons, List.nodup_nil, decide_true, Bool.false_eq_true, true_and, and_true, Nat.zero_add, Nat.reduceAdd, Nat.reduceSub, Nat.reduceLT, Option.bind_eq_bind, Option.pure_def]
  refine w_inv (fun ds env => ∃ (a b : Int) (x2 x3 x4 x5 x6 x7 x8 x9 x10 x11 x12 x13 x14 x15 : T), env = [.scr ns, T.lst [.dat (.list (cs.map .int)), .dat (.int a), .dat (.int b)], x2, x3, x4, x5, x6, x7, x8, x9, x10, x11, x12, x13, x14, x15] ∧ 0 ≤ a ∧ a + 100 * (ds.length : Int) ≤ 1000 ∧ calmT x15 = true)
    ⟨0, 0, .un, .un, .un, .un, .un, .un, .un, .un, .un, .un, .un, .un, .un, .un, rfl, by decide, by decide, rfl⟩ ?_ ?_
  · rintro d r env ⟨a, b, x2, x3, x4, x5, x6, x7, x8, x9, x10, x11, x12, x13, x14, x15, rfl, h0, hl, hc⟩
    rw [List.length_cons] at hl
    simp only [toDs_map, toDs_ints, allDat_map, allDat_ints, eqv_ints, sh_ints, sh_nil, eqv_nil, sz_0, sz_1, sz_2, sz_3, sz_4, sz_5, sz_6, sz_7, sz_8, sz_9, sz_10, sz_11, sz_12, sz_13, sz_14, sz_15, sz_16, sz_17, sz_18, sz_19, sz_20, sz_21, sz_22, sz_23, sz_24, sz_25, sz_26, sz_27, sz_28, sz_29, sz_30, sz_31, sz_32, sz_33, sz_34, sz_35, sz_36, sz_37, sz_38, sz_39, sz_40, decide_eq_true_eq, Int.reduceLT, Int.reduceLE, Nat.reduceLeDiff, feedT, nd_one, at2_0, at2_1, at3_0, at3_1, at3_2, ix3_1, ix3_2, set3_1, set3_2, ↓VS.w_var, ↓VS.w_mv, ↓VS.w_c, ↓VS.w_2, ↓VS.w_and, ↓VS.w_or, ↓VS.w_not, ↓VS.w_if, ↓VS.w_ch, ↓VS.w_neg, ↓VS.w_fz, ↓VS.w_nil, ↓VS.w_cons, ↓VS.w_amut, ↓VS.w_disp, ↓VS.w_b, ↓VS.w_isi, ↓VS.w_call, ↓VS.w_rev, ↓VS.w_sl, ↓VS.w_mut, ↓VS.w_snil, ↓VS.w_seq, ↓VS.w_set, ↓VS.w_ret, ↓VS.w_expr, ↓VS.w_asg, ↓VS.w_sto, ↓VS.w_for, ↓VS.w_iof, ↓VS.w_rng, ↓VS.w_isx, ↓VS.w_efn, ↓VS.w_try, ↓VS.w_raise, ↓VS.w_m, ↓VS.w_callV, ↓VS.w_comp, ↓VS.w_yes, ↓VS.wO_some, ↓VS.wO_none, ↓VS.wO_map, ↓VS.wO_ite, VS.kMv, VS.k2b, VS.k2, VS.kQ, VS.kAnd, VS.kOr, VS.kNot, VS.kIf, VS.kChc, VS.kChb, VS.kCh, VS.kNeg, VS.frzV, VS.kFz, VS.kConsB, VS.kCons, VS.kMutA, VS.kUn, VS.kDisp, VS.kB, VS.kIsi, VS.kFo, VS.kCall, VS.kRev, VS.kPartB, VS.kPart, VS.kSlc, VS.kSlb, VS.kSl, VS.kMutT, VS.kMutR, VS.kSeq, VS.kSet, VS.kRet, VS.kExpr, VS.kIfS, VS.kAsg, VS.kStoT, VS.kStoI, VS.kSto, VS.kFor, VS.kOf, VS.kRng, VS.kFn, VS.kCompQ, VS.kComp, VS.kIsx, VS.kTry, VS.exName, VS.kM, VS.kMb, VS.kCv, VS.frz, VS.on1, VS.on2, VS.oErr, VS.opSl, VS.opRev, VS.isL, VS.isDc, VS.moAppend, VS.stL, VS.keeps, VS.keep, VS.mkTup, VS.allDat, VS.mkV, VS.pD, VS.pL, VS.pTu, VS.pI, VS.pB, VS.PV.tr, VS.PV.held, VS.toD, VS.toDs, VS.elems, VS.telems, VS.opI, VS.opB, VS.opAdd, VS.opEq, VS.opNe, VS.opIs, VS.opIsNot, VS.isNonT, VS.opIx, VS.subT, VS.datV, VS.ms, VS.noVw, VS.arT, VS.arTs, VS.okM, VS.putM, VS.unM, VS.valsA, VS.argsOut, VS.gNm, VS.gTp, VS.gEach, VS.kidsT, VS.tyT, VS.isTy, VS.bLen, VS.seqN, VS.seqD, VS.bList, VS.bRepr, VS.inR, VS.bSum2, VS.pTi, VS.bIndex, VS.bCount, VS.isLi, VS.opRg, VS.sh_int, VS.sh_bl, VS.sh_str, VS.sh_non, VS.eqv_int, VS.eqv_bl, VS.eqv_str, List.getElem?_cons_zero, List.getElem?_cons_succ, List.length_cons, List.length_nil, List.set_cons_zero, List.set_cons_succ, List.replicate_succ, List.replicate_zero, List.cons_append, List.nil_append, List.map_cons, List.map_nil, Option.map_some, Option.map_none, Option.bind_some, Option.bind_none, if_true, if_false, Bool.true_and, Bool.and_true, Bool.false_and, Bool.and_false, Bool.or_true, Bool.true_or, Bool.false_or, Bool.or_false, List.isEmpty_nil, List.isEmpty_cons, List.nodup_nil, decide_true, Bool.false_eq_true, true_and, and_true, Nat.zero_add, Nat.reduceAdd, Nat.reduceSub, Nat.reduceLT, Option.bind_eq_bind, Option.pure_def]
    refine e_case h0 (by omega) hcs fun kept many low high tot a1 b1 c g1 g2 => ?_
    have kl := c.kl
    have mb := c.mb
    have td := toDs_of tupI (dealT many low high tot)
    simp only [caseD, toDs_map, toDs_ints, allDat_map, allDat_ints, eqv_ints, sh_ints, sh_nil, eqv_nil, sz_0, sz_1, sz_2, sz_3, sz_4, sz_5, sz_6, sz_7, sz_8, sz_9, sz_10, sz_11, sz_12, sz_13, sz_14, sz_15, sz_16, sz_17, sz_18, sz_19, sz_20, sz_21, sz_22, sz_23, sz_24, sz_25, sz_26, sz_27, sz_28, sz_29, sz_30, sz_31, sz_32, sz_33, sz_34, sz_35, sz_36, sz_37, sz_38, sz_39, sz_40, decide_eq_true_eq, Int.reduceLT, Int.reduceLE, Nat.reduceLeDiff, feedT, nd_one, at2_0, at2_1, at3_0, at3_1, at3_2, ix3_1, ix3_2, set3_1, set3_2, ↓VS.w_var, ↓VS.w_mv, ↓VS.w_c, ↓VS.w_2, ↓VS.w_and, ↓VS.w_or, ↓VS.w_not, ↓VS.w_if, ↓VS.w_ch, ↓VS.w_neg, ↓VS.w_fz, ↓VS.w_nil, ↓VS.w_cons, ↓VS.w_amut, ↓VS.w_disp, ↓VS.w_b, ↓VS.w_isi, ↓VS.w_call, ↓VS.w_rev, ↓VS.w_sl, ↓VS.w_mut, ↓VS.w_snil, ↓VS.w_seq, ↓VS.w_set, ↓VS.w_ret, ↓VS.w_expr, ↓VS.w_asg, ↓VS.w_sto, ↓VS.w_for, ↓VS.w_iof, ↓VS.w_rng, ↓VS.w_isx, ↓VS.w_efn, ↓VS.w_try, ↓VS.w_raise, ↓VS.w_m, ↓VS.w_callV, ↓VS.w_comp, ↓VS.w_yes, ↓VS.wO_some, ↓VS.wO_none, ↓VS.wO_map, ↓VS.wO_ite, VS.kMv, VS.k2b, VS.k2, VS.kQ, VS.kAnd, VS.kOr, VS.kNot, VS.kIf, VS.kChc, VS.kChb, VS.kCh, VS.kNeg, VS.frzV, VS.kFz, VS.kConsB, VS.kCons, VS.kMutA, VS.kUn, VS.kDisp, VS.kB, VS.kIsi, VS.kFo, VS.kCall, VS.kRev, VS.kPartB, VS.kPart, VS.kSlc, VS.kSlb, VS.kSl, VS.kMutT, VS.kMutR, VS.kSeq, VS.kSet, VS.kRet, VS.kExpr, VS.kIfS, VS.kAsg, VS.kStoT, VS.kStoI, VS.kSto, VS.kFor, VS.kOf, VS.kRng, VS.kFn, VS.kCompQ, VS.kComp, VS.kIsx, VS.kTry, VS.exName, VS.kM, VS.kMb, VS.kCv, VS.frz, VS.on1, VS.on2, VS.oErr, VS.opSl, VS.opRev, VS.isL, VS.isDc, VS.moAppend, VS.stL, VS.keeps, VS.keep, VS.mkTup, VS.allDat, VS.mkV, VS.pD, VS.pL, VS.pTu, VS.pI, VS.pB, VS.PV.tr, VS.PV.held, VS.toD, VS.toDs, VS.elems, VS.telems, VS.opI, VS.opB, VS.opAdd, VS.opEq, VS.opNe, VS.opIs, VS.opIsNot, VS.isNonT, VS.opIx, VS.subT, VS.datV, VS.ms, VS.noVw, VS.arT, VS.arTs, VS.okM, VS.putM, VS.unM, VS.valsA, VS.argsOut, VS.gNm, VS.gTp, VS.gEach, VS.kidsT, VS.tyT, VS.isTy, VS.bLen, VS.seqN, VS.seqD, VS.bList, VS.bRepr, VS.inR, VS.bSum2, VS.pTi, VS.bIndex, VS.bCount, VS.isLi, VS.opRg, VS.sh_int, VS.sh_bl, VS.sh_str, VS.sh_non, VS.eqv_int, VS.eqv_bl, VS.eqv_str, List.getElem?_cons_zero, List.getElem?_cons_succ, List.length_cons, List.length_nil, List.set_cons_zero, List.set_cons_succ, List.replicate_succ, List.replicate_zero, List.cons_append, List.nil_append, List.map_cons, List.map_nil, Option.map_some, Option.map_none, Option.bind_some, Option.bind_none, if_true, if_false, Bool.true_and, Bool.and_true, Bool.false_and, Bool.and_false, Bool.or_true, Bool.true_or, Bool.false_or, Bool.or_false, List.isEmpty_nil, List.isEmpty_cons, List.nodup_nil, decide_true, Bool.false_eq_true, true_and, and_true, Nat.zero_add, Nat.reduceAdd, Nat.reduceSub, Nat.reduceLT, Option.bind_eq_bind, Option.pure_def]
    refine e_dealings c.mb c.lh c.hl ?_
    simp only [td, caseD, toDs_map, toDs_ints, allDat_map, allDat_ints, eqv_ints, sh_ints, sh_nil, eqv_nil, sz_0, sz_1, sz_2, sz_3, sz_4, sz_5, sz_6, sz_7, sz_8, sz_9, sz_10, sz_11, sz_12, sz_13, sz_14, sz_15, sz_16, sz_17, sz_18, sz_19, sz_20, sz_21, sz_22, sz_23, sz_24, sz_25, sz_26, sz_27, sz_28, sz_29, sz_30, sz_31, sz_32, sz_33, sz_34, sz_35, sz_36, sz_37, sz_38, sz_39, sz_40, decide_eq_true_eq, Int.reduceLT, Int.reduceLE, Nat.reduceLeDiff, feedT, nd_one, at2_0, at2_1, at3_0, at3_1, at3_2, ix3_1, ix3_2, set3_1, set3_2, ↓VS.w_var, ↓VS.w_mv, ↓VS.w_c, ↓VS.w_2, ↓VS.w_and, ↓VS.w_or, ↓VS.w_not, ↓VS.w_if, ↓VS.w_ch, ↓VS.w_neg, ↓VS.w_fz, ↓VS.w_nil, ↓VS.w_cons, ↓VS.w_amut, ↓VS.w_disp, ↓VS.w_b, ↓VS.w_isi, ↓VS.w_call, ↓VS.w_rev, ↓VS.w_sl, ↓VS.w_mut, ↓VS.w_snil, ↓VS.w_seq, ↓VS.w_set, ↓VS.w_ret, ↓VS.w_expr, ↓VS.w_asg, ↓VS.w_sto, ↓VS.w_for, ↓VS.w_iof, ↓VS.w_rng, ↓VS.w_isx, ↓VS.w_efn, ↓VS.w_try, ↓VS.w_raise, ↓VS.w_m, ↓VS.w_callV, ↓VS.w_comp, ↓VS.w_yes, ↓VS.wO_some, ↓VS.wO_none, ↓VS.wO_map, ↓VS.wO_ite, VS.kMv, VS.k2b, VS.k2, VS.kQ, VS.kAnd, VS.kOr, VS.kNot, VS.kIf, VS.kChc, VS.kChb, VS.kCh, VS.kNeg, VS.frzV, VS.kFz, VS.kConsB, VS.kCons, VS.kMutA, VS.kUn, VS.kDisp, VS.kB, VS.kIsi, VS.kFo, VS.kCall, VS.kRev, VS.kPartB, VS.kPart, VS.kSlc, VS.kSlb, VS.kSl, VS.kMutT, VS.kMutR, VS.kSeq, VS.kSet, VS.kRet, VS.kExpr, VS.kIfS, VS.kAsg, VS.kStoT, VS.kStoI, VS.kSto, VS.kFor, VS.kOf, VS.kRng, VS.kFn, VS.kCompQ, VS.kComp, VS.kIsx, VS.kTry, VS.exName, VS.kM, VS.kMb, VS.kCv, VS.frz, VS.on1, VS.on2, VS.oErr, VS.opSl, VS.opRev, VS.isL, VS.isDc, VS.moAppend, VS.stL, VS.keeps, VS.keep, VS.mkTup, VS.allDat, VS.mkV, VS.pD, VS.pL, VS.pTu, VS.pI, VS.pB, VS.PV.tr, VS.PV.held, VS.toD, VS.toDs, VS.elems, VS.telems, VS.opI, VS.opB, VS.opAdd, VS.opEq, VS.opNe, VS.opIs, VS.opIsNot, VS.isNonT, VS.opIx, VS.subT, VS.datV, VS.ms, VS.noVw, VS.arT, VS.arTs, VS.okM, VS.putM, VS.unM, VS.valsA, VS.argsOut, VS.gNm, VS.gTp, VS.gEach, VS.kidsT, VS.tyT, VS.isTy, VS.bLen, VS.seqN, VS.seqD, VS.bList, VS.bRepr, VS.inR, VS.bSum2, VS.pTi, VS.bIndex, VS.bCount, VS.isLi, VS.opRg, VS.sh_int, VS.sh_bl, VS.sh_str, VS.sh_non, VS.eqv_int, VS.eqv_bl, VS.eqv_str, List.getElem?_cons_zero, List.getElem?_cons_succ, List.length_cons, List.length_nil, List.set_cons_zero, List.set_cons_succ, List.replicate_succ, List.replicate_zero, List.cons_append, List.nil_append, List.map_cons, List.map_nil, Option.map_some, Option.map_none, Option.bind_some, Option.bind_none, if_true, if_false, Bool.true_and, Bool.and_true, Bool.false_and, Bool.and_false, Bool.or_true, Bool.true_or, Bool.false_or, Bool.or_false, List.isEmpty_nil, List.isEmpty_cons, List.nodup_nil, decide_true, Bool.false_eq_true, true_and, and_true, Nat.zero_add, Nat.reduceAdd, Nat.reduceSub, Nat.reduceLT, Option.bind_eq_bind, Option.pure_def]
    refine e_numbers g1 (by omega) hcs c fun nums a2 b2 hb g3 g4 => ?_
    simp only [caseD, toDs_map, toDs_ints, allDat_map, allDat_ints, eqv_ints, sh_ints, sh_nil, eqv_nil, sz_0, sz_1, sz_2, sz_3, sz_4, sz_5, sz_6, sz_7, sz_8, sz_9, sz_10, sz_11, sz_12, sz_13, sz_14, sz_15, sz_16, sz_17, sz_18, sz_19, sz_20, sz_21, sz_22, sz_23, sz_24, sz_25, sz_26, sz_27, sz_28, sz_29, sz_30, sz_31, sz_32, sz_33, sz_34, sz_35, sz_36, sz_37, sz_38, sz_39, sz_40, decide_eq_true_eq, Int.reduceLT, Int.reduceLE, Nat.reduceLeDiff, feedT, nd_one, at2_0, at2_1, at3_0, at3_1, at3_2, ix3_1, ix3_2, set3_1, set3_2, ↓VS.w_var, ↓VS.w_mv, ↓VS.w_c, ↓VS.w_2, ↓VS.w_and, ↓VS.w_or, ↓VS.w_not, ↓VS.w_if, ↓VS.w_ch, ↓VS.w_neg, ↓VS.w_fz, ↓VS.w_nil, ↓VS.w_cons, ↓VS.w_amut, ↓VS.w_disp, ↓VS.w_b, ↓VS.w_isi, ↓VS.w_call, ↓VS.w_rev, ↓VS.w_sl, ↓VS.w_mut, ↓VS.w_snil, ↓VS.w_seq, ↓VS.w_set, ↓VS.w_ret, ↓VS.w_expr, ↓VS.w_asg, ↓VS.w_sto, ↓VS.w_for, ↓VS.w_iof, ↓VS.w_rng, ↓VS.w_isx, ↓VS.w_efn, ↓VS.w_try, ↓VS.w_raise, ↓VS.w_m, ↓VS.w_callV, ↓VS.w_comp, ↓VS.w_yes, ↓VS.wO_some, ↓VS.wO_none, ↓VS.wO_map, ↓VS.wO_ite, VS.kMv, VS.k2b, VS.k2, VS.kQ, VS.kAnd, VS.kOr, VS.kNot, VS.kIf, VS.kChc, VS.kChb, VS.kCh, VS.kNeg, VS.frzV, VS.kFz, VS.kConsB, VS.kCons, VS.kMutA, VS.kUn, VS.kDisp, VS.kB, VS.kIsi, VS.kFo, VS.kCall, VS.kRev, VS.kPartB, VS.kPart, VS.kSlc, VS.kSlb, VS.kSl, VS.kMutT, VS.kMutR, VS.kSeq, VS.kSet, VS.kRet, VS.kExpr, VS.kIfS, VS.kAsg, VS.kStoT, VS.kStoI, VS.kSto, VS.kFor, VS.kOf, VS.kRng, VS.kFn, VS.kCompQ, VS.kComp, VS.kIsx, VS.kTry, VS.exName, VS.kM, VS.kMb, VS.kCv, VS.frz, VS.on1, VS.on2, VS.oErr, VS.opSl, VS.opRev, VS.isL, VS.isDc, VS.moAppend, VS.stL, VS.keeps, VS.keep, VS.mkTup, VS.allDat, VS.mkV, VS.pD, VS.pL, VS.pTu, VS.pI, VS.pB, VS.PV.tr, VS.PV.held, VS.toD, VS.toDs, VS.elems, VS.telems, VS.opI, VS.opB, VS.opAdd, VS.opEq, VS.opNe, VS.opIs, VS.opIsNot, VS.isNonT, VS.opIx, VS.subT, VS.datV, VS.ms, VS.noVw, VS.arT, VS.arTs, VS.okM, VS.putM, VS.unM, VS.valsA, VS.argsOut, VS.gNm, VS.gTp, VS.gEach, VS.kidsT, VS.tyT, VS.isTy, VS.bLen, VS.seqN, VS.seqD, VS.bList, VS.bRepr, VS.inR, VS.bSum2, VS.pTi, VS.bIndex, VS.bCount, VS.isLi, VS.opRg, VS.sh_int, VS.sh_bl, VS.sh_str, VS.sh_non, VS.eqv_int, VS.eqv_bl, VS.eqv_str, List.getElem?_cons_zero, List.getElem?_cons_succ, List.length_cons, List.length_nil, List.set_cons_zero, List.set_cons_succ, List.replicate_succ, List.replicate_zero, List.cons_append, List.nil_append, List.map_cons, List.map_nil, Option.map_some, Option.map_none, Option.bind_some, Option.bind_none, if_true, if_false, Bool.true_and, Bool.and_true, Bool.false_and, Bool.and_false, Bool.or_true, Bool.true_or, Bool.false_or, Bool.or_false, List.isEmpty_nil, List.isEmpty_cons, List.nodup_nil, decide_true, Bool.false_eq_true, true_and, and_true, Nat.zero_add, Nat.reduceAdd, Nat.reduceSub, Nat.reduceLT, Option.bind_eq_bind, Option.pure_def]
    refine w_inv (fun ds env => ∃ (zs : List Int) (y10 y11 y12 y13 y14 y15 : T), ds = zs.map .int ∧ (∀ x ∈ zs, -(10 ^ 38) ≤ x ∧ x ≤ 10 ^ 38) ∧ calmT y15 = true ∧
      env = [T.scr ns, T.lst [.dat (.list (cs.map .int)), .dat (.int a2), .dat (.int b2)], .dat d, .dat (.tuple [.list (kept.map .int), .int many, .int low, .int high, oD tot]), .dat (.list (kept.map .int)), .dat (.int many), .dat (.int low), .dat (.int high), .dat (oD tot), .dat (.list ((dealT many low high tot).map tupI)), y10, y11, y12, y13, y14, y15])
      ⟨nums, x10, x11, x12, x13, x14, x15, rfl, hb, hc, rfl⟩ ?_ ?_
    · rintro d3 r3 env ⟨zs, y10, y11, y12, y13, y14, y15, hz, hb, hc, rfl⟩
      cases zs with
      | nil => cases hz
      | cons z zs =>
        cases hz
        have zb := hb z List.mem_cons_self
        have hr := fun x hx => hb x (List.mem_cons_of_mem _ hx)
        have emp : (dealT many low high tot).map tupI = [] ↔ dealT many low high tot = [] := List.map_eq_nil_iff
        by_cases can : Can many low high tot
        · have C := c.ok can
          have ne : dealT many low high tot ≠ [] := by
            obtain ⟨⟨t, ht, _⟩, _⟩ := few_all (x := z) C
            intro e
            rw [e] at ht; cases ht
          have ne2 : (!decide ((dealT many low high tot).map tupI = [])) = true := by simp [emp, ne]
          have ld : (dealT many low high tot).length ≤ sizeLine := Nat.le_trans (len_dealT c.mb c.hl) (by rw [PySem.sizeLine_eq]; omega)
          have calm := hc
          simp only [sh_tups, eqv_lnil, ne2, ld, calm, List.length_map, wipeE, List.getD_cons_zero, List.getD_cons_succ, List.all_cons, List.all_nil, toDs_map, toDs_ints, allDat_map, allDat_ints, eqv_ints, sh_ints, sh_nil, eqv_nil, sz_0, sz_1, sz_2, sz_3, sz_4, sz_5, sz_6, sz_7, sz_8, sz_9, sz_10, sz_11, sz_12, sz_13, sz_14, sz_15, sz_16, sz_17, sz_18, sz_19, sz_20, sz_21, sz_22, sz_23, sz_24, sz_25, sz_26, sz_27, sz_28, sz_29, sz_30, sz_31, sz_32, sz_33, sz_34, sz_35, sz_36, sz_37, sz_38, sz_39, sz_40, decide_eq_true_eq, Int.reduceLT, Int.reduceLE, Nat.reduceLeDiff, feedT, nd_one, at2_0, at2_1, at3_0, at3_1, at3_2, ix3_1, ix3_2, set3_1, set3_2, ↓VS.w_var, ↓VS.w_mv, ↓VS.w_c, ↓VS.w_2, ↓VS.w_and, ↓VS.w_or, ↓VS.w_not, ↓VS.w_if, ↓VS.w_ch, ↓VS.w_neg, ↓VS.w_fz, ↓VS.w_nil, ↓VS.w_cons, ↓VS.w_amut, ↓VS.w_disp, ↓VS.w_b, ↓VS.w_isi, ↓VS.w_call, ↓VS.w_rev, ↓VS.w_sl, ↓VS.w_mut, ↓VS.w_snil, ↓VS.w_seq, ↓VS.w_set, ↓VS.w_ret, ↓VS.w_expr, ↓VS.w_ifs, ↓VS.w_asg, ↓VS.w_sto, ↓VS.w_for, ↓VS.w_iof, ↓VS.w_rng, ↓VS.w_isx, ↓VS.w_efn, ↓VS.w_try, ↓VS.w_raise, ↓VS.w_m, ↓VS.w_callV, ↓VS.w_comp, ↓VS.w_yes, ↓VS.wO_some, ↓VS.wO_none, ↓VS.wO_map, ↓VS.wO_ite, VS.kMv, VS.k2b, VS.k2, VS.kQ, VS.kAnd, VS.kOr, VS.kNot, VS.kIf, VS.kChc, VS.kChb, VS.kCh, VS.kNeg, VS.frzV, VS.kFz, VS.kConsB, VS.kCons, VS.kMutA, VS.kUn, VS.kDisp, VS.kB, VS.kIsi, VS.kFo, VS.kCall, VS.kRev, VS.kPartB, VS.kPart, VS.kSlc, VS.kSlb, VS.kSl, VS.kMutT, VS.kMutR, VS.kSeq, VS.kSet, VS.kRet, VS.kExpr, VS.kIfS, VS.kAsg, VS.kStoT, VS.kStoI, VS.kSto, VS.kFor, VS.kOf, VS.kRng, VS.kFn, VS.kCompQ, VS.kComp, VS.kIsx, VS.kTry, VS.exName, VS.kM, VS.kMb, VS.kCv, VS.frz, VS.on1, VS.on2, VS.oErr, VS.opSl, VS.opRev, VS.isL, VS.isDc, VS.moAppend, VS.stL, VS.keeps, VS.keep, VS.mkTup, VS.allDat, VS.mkV, VS.pD, VS.pL, VS.pTu, VS.pI, VS.pB, VS.PV.tr, VS.PV.held, VS.toD, VS.toDs, VS.elems, VS.telems, VS.opI, VS.opB, VS.opAdd, VS.opEq, VS.opNe, VS.opIs, VS.opIsNot, VS.isNonT, VS.opIx, VS.subT, VS.datV, VS.ms, VS.noVw, VS.arT, VS.arTs, VS.okM, VS.putM, VS.unM, VS.valsA, VS.argsOut, VS.gNm, VS.gTp, VS.gEach, VS.kidsT, VS.tyT, VS.isTy, VS.bLen, VS.seqN, VS.seqD, VS.bList, VS.bRepr, VS.inR, VS.bSum2, VS.pTi, VS.bIndex, VS.bCount, VS.isLi, VS.opRg, VS.sh_int, VS.sh_bl, VS.sh_str, VS.sh_non, VS.eqv_int, VS.eqv_bl, VS.eqv_str, List.getElem?_cons_zero, List.getElem?_cons_succ, List.length_cons, List.length_nil, List.set_cons_zero, List.set_cons_succ, List.replicate_succ, List.replicate_zero, List.cons_append, List.nil_append, List.map_cons, List.map_nil, Option.map_some, Option.map_none, Option.bind_some, Option.bind_none, if_true, if_false, Bool.true_and, Bool.and_true, Bool.false_and, Bool.and_false, Bool.or_true, Bool.true_or, Bool.false_or, Bool.or_false, List.isEmpty_nil, List.isEmpty_cons, List.nodup_nil, decide_true, Bool.false_eq_true, true_and, and_true, Nat.zero_add, Nat.reduceAdd, Nat.reduceSub, Nat.reduceLT, Option.bind_eq_bind, Option.pure_def]
          refine wc_enc tupI (fun _ => true) (fun t => .dat (.int (ov z (kept ++ t) : Nat))) rfl (fun t ht => ⟨_, rfl, rfl, ?_, fun _ => ?_⟩) ?_
          · simp only [toDs_map, toDs_ints, allDat_map, allDat_ints, eqv_ints, sh_ints, sh_nil, eqv_nil, sz_0, sz_1, sz_2, sz_3, sz_4, sz_5, sz_6, sz_7, sz_8, sz_9, sz_10, sz_11, sz_12, sz_13, sz_14, sz_15, sz_16, sz_17, sz_18, sz_19, sz_20, sz_21, sz_22, sz_23, sz_24, sz_25, sz_26, sz_27, sz_28, sz_29, sz_30, sz_31, sz_32, sz_33, sz_34, sz_35, sz_36, sz_37, sz_38, sz_39, sz_40, decide_eq_true_eq, Int.reduceLT, Int.reduceLE, Nat.reduceLeDiff, feedT, nd_one, at2_0, at2_1, at3_0, at3_1, at3_2, ix3_1, ix3_2, set3_1, set3_2, ↓VS.w_var, ↓VS.w_mv, ↓VS.w_c, ↓VS.w_2, ↓VS.w_and, ↓VS.w_or, ↓VS.w_not, ↓VS.w_if, ↓VS.w_ch, ↓VS.w_neg, ↓VS.w_fz, ↓VS.w_nil, ↓VS.w_cons, ↓VS.w_amut, ↓VS.w_disp, ↓VS.w_b, ↓VS.w_isi, ↓VS.w_call, ↓VS.w_rev, ↓VS.w_sl, ↓VS.w_mut, ↓VS.w_snil, ↓VS.w_seq, ↓VS.w_set, ↓VS.w_ret, ↓VS.w_expr, ↓VS.w_ifs, ↓VS.w_asg, ↓VS.w_sto, ↓VS.w_for, ↓VS.w_iof, ↓VS.w_rng, ↓VS.w_isx, ↓VS.w_efn, ↓VS.w_try, ↓VS.w_raise, ↓VS.w_m, ↓VS.w_callV, ↓VS.w_comp, ↓VS.w_yes, ↓VS.wO_some, ↓VS.wO_none, ↓VS.wO_map, ↓VS.wO_ite, VS.kMv, VS.k2b, VS.k2, VS.kQ, VS.kAnd, VS.kOr, VS.kNot, VS.kIf, VS.kChc, VS.kChb, VS.kCh, VS.kNeg, VS.frzV, VS.kFz, VS.kConsB, VS.kCons, VS.kMutA, VS.kUn, VS.kDisp, VS.kB, VS.kIsi, VS.kFo, VS.kCall, VS.kRev, VS.kPartB, VS.kPart, VS.kSlc, VS.kSlb, VS.kSl, VS.kMutT, VS.kMutR, VS.kSeq, VS.kSet, VS.kRet, VS.kExpr, VS.kIfS, VS.kAsg, VS.kStoT, VS.kStoI, VS.kSto, VS.kFor, VS.kOf, VS.kRng, VS.kFn, VS.kCompQ, VS.kComp, VS.kIsx, VS.kTry, VS.exName, VS.kM, VS.kMb, VS.kCv, VS.frz, VS.on1, VS.on2, VS.oErr, VS.opSl, VS.opRev, VS.isL, VS.isDc, VS.moAppend, VS.stL, VS.keeps, VS.keep, VS.mkTup, VS.allDat, VS.mkV, VS.pD, VS.pL, VS.pTu, VS.pI, VS.pB, VS.PV.tr, VS.PV.held, VS.toD, VS.toDs, VS.elems, VS.telems, VS.opI, VS.opB, VS.opAdd, VS.opEq, VS.opNe, VS.opIs, VS.opIsNot, VS.isNonT, VS.opIx, VS.subT, VS.datV, VS.ms, VS.noVw, VS.arT, VS.arTs, VS.okM, VS.putM, VS.unM, VS.valsA, VS.argsOut, VS.gNm, VS.gTp, VS.gEach, VS.kidsT, VS.tyT, VS.isTy, VS.bLen, VS.seqN, VS.seqD, VS.bList, VS.bRepr, VS.inR, VS.bSum2, VS.pTi, VS.bIndex, VS.bCount, VS.isLi, VS.opRg, VS.sh_int, VS.sh_bl, VS.sh_str, VS.sh_non, VS.eqv_int, VS.eqv_bl, VS.eqv_str, List.getElem?_cons_zero, List.getElem?_cons_succ, List.length_cons, List.length_nil, List.set_cons_zero, List.set_cons_succ, List.replicate_succ, List.replicate_zero, List.cons_append, List.nil_append, List.map_cons, List.map_nil, Option.map_some, Option.map_none, Option.bind_some, Option.bind_none, if_true, if_false, Bool.true_and, Bool.and_true, Bool.false_and, Bool.and_false, Bool.or_true, Bool.true_or, Bool.false_or, Bool.or_false, List.isEmpty_nil, List.isEmpty_cons, List.nodup_nil, decide_true, Bool.false_eq_true, true_and, and_true, Nat.zero_add, Nat.reduceAdd, Nat.reduceSub, Nat.reduceLT, Option.bind_eq_bind, Option.pure_def]; exact ⟨_, rfl, rfl⟩
          · have tl : t.length ≤ 4 := by have := (mem_dealT.mp ht).2.1; omega
            have la : kept.length + t.length ≤ sizeLine := sz_of (by omega)
            have ap : kept.map PyData.int ++ t.map PyData.int = (kept ++ t).map .int := List.map_append.symm
            simp only [tupI, List.length_map, la, ap, toDs_map, toDs_ints, allDat_map, allDat_ints, eqv_ints, sh_ints, sh_nil, eqv_nil, sz_0, sz_1, sz_2, sz_3, sz_4, sz_5, sz_6, sz_7, sz_8, sz_9, sz_10, sz_11, sz_12, sz_13, sz_14, sz_15, sz_16, sz_17, sz_18, sz_19, sz_20, sz_21, sz_22, sz_23, sz_24, sz_25, sz_26, sz_27, sz_28, sz_29, sz_30, sz_31, sz_32, sz_33, sz_34, sz_35, sz_36, sz_37, sz_38, sz_39, sz_40, decide_eq_true_eq, Int.reduceLT, Int.reduceLE, Nat.reduceLeDiff, feedT, nd_one, at2_0, at2_1, at3_0, at3_1, at3_2, ix3_1, ix3_2, set3_1, set3_2, ↓VS.w_var, ↓VS.w_mv, ↓VS.w_c, ↓VS.w_2, ↓VS.w_and, ↓VS.w_or, ↓VS.w_not, ↓VS.w_if, ↓VS.w_ch, ↓VS.w_neg, ↓VS.w_fz, ↓VS.w_nil, ↓VS.w_cons, ↓VS.w_amut, ↓VS.w_disp, ↓VS.w_b, ↓VS.w_isi, ↓VS.w_call, ↓VS.w_rev, ↓VS.w_sl, ↓VS.w_mut, ↓VS.w_snil, ↓VS.w_seq, ↓VS.w_set, ↓VS.w_ret, ↓VS.w_expr, ↓VS.w_ifs, ↓VS.w_asg, ↓VS.w_sto, ↓VS.w_for, ↓VS.w_iof, ↓VS.w_rng, ↓VS.w_isx, ↓VS.w_efn, ↓VS.w_try, ↓VS.w_raise, ↓VS.w_m, ↓VS.w_callV, ↓VS.w_comp, ↓VS.w_yes, ↓VS.wO_some, ↓VS.wO_none, ↓VS.wO_map, ↓VS.wO_ite, VS.kMv, VS.k2b, VS.k2, VS.kQ, VS.kAnd, VS.kOr, VS.kNot, VS.kIf, VS.kChc, VS.kChb, VS.kCh, VS.kNeg, VS.frzV, VS.kFz, VS.kConsB, VS.kCons, VS.kMutA, VS.kUn, VS.kDisp, VS.kB, VS.kIsi, VS.kFo, VS.kCall, VS.kRev, VS.kPartB, VS.kPart, VS.kSlc, VS.kSlb, VS.kSl, VS.kMutT, VS.kMutR, VS.kSeq, VS.kSet, VS.kRet, VS.kExpr, VS.kIfS, VS.kAsg, VS.kStoT, VS.kStoI, VS.kSto, VS.kFor, VS.kOf, VS.kRng, VS.kFn, VS.kCompQ, VS.kComp, VS.kIsx, VS.kTry, VS.exName, VS.kM, VS.kMb, VS.kCv, VS.frz, VS.on1, VS.on2, VS.oErr, VS.opSl, VS.opRev, VS.isL, VS.isDc, VS.moAppend, VS.stL, VS.keeps, VS.keep, VS.mkTup, VS.allDat, VS.mkV, VS.pD, VS.pL, VS.pTu, VS.pI, VS.pB, VS.PV.tr, VS.PV.held, VS.toD, VS.toDs, VS.elems, VS.telems, VS.opI, VS.opB, VS.opAdd, VS.opEq, VS.opNe, VS.opIs, VS.opIsNot, VS.isNonT, VS.opIx, VS.subT, VS.datV, VS.ms, VS.noVw, VS.arT, VS.arTs, VS.okM, VS.putM, VS.unM, VS.valsA, VS.argsOut, VS.gNm, VS.gTp, VS.gEach, VS.kidsT, VS.tyT, VS.isTy, VS.bLen, VS.seqN, VS.seqD, VS.bList, VS.bRepr, VS.inR, VS.bSum2, VS.pTi, VS.bIndex, VS.bCount, VS.isLi, VS.opRg, VS.sh_int, VS.sh_bl, VS.sh_str, VS.sh_non, VS.eqv_int, VS.eqv_bl, VS.eqv_str, List.getElem?_cons_zero, List.getElem?_cons_succ, List.length_cons, List.length_nil, List.set_cons_zero, List.set_cons_succ, List.replicate_succ, List.replicate_zero, List.cons_append, List.nil_append, List.map_cons, List.map_nil, Option.map_some, Option.map_none, Option.bind_some, Option.bind_none, if_true, if_false, Bool.true_and, Bool.and_true, Bool.false_and, Bool.and_false, Bool.or_true, Bool.true_or, Bool.false_or, Bool.or_false, List.isEmpty_nil, List.isEmpty_cons, List.nodup_nil, decide_true, Bool.false_eq_true, true_and, and_true, Nat.zero_add, Nat.reduceAdd, Nat.reduceSub, Nat.reduceLT, Option.bind_eq_bind, Option.pure_def]
            refine e_law_over (by rw [List.length_append]; omega) ?_
            simp only [toDs_map, toDs_ints, allDat_map, allDat_ints, eqv_ints, sh_ints, sh_nil, eqv_nil, sz_0, sz_1, sz_2, sz_3, sz_4, sz_5, sz_6, sz_7, sz_8, sz_9, sz_10, sz_11, sz_12, sz_13, sz_14, sz_15, sz_16, sz_17, sz_18, sz_19, sz_20, sz_21, sz_22, sz_23, sz_24, sz_25, sz_26, sz_27, sz_28, sz_29, sz_30, sz_31, sz_32, sz_33, sz_34, sz_35, sz_36, sz_37, sz_38, sz_39, sz_40, decide_eq_true_eq, Int.reduceLT, Int.reduceLE, Nat.reduceLeDiff, feedT, nd_one, at2_0, at2_1, at3_0, at3_1, at3_2, ix3_1, ix3_2, set3_1, set3_2, ↓VS.w_var, ↓VS.w_mv, ↓VS.w_c, ↓VS.w_2, ↓VS.w_and, ↓VS.w_or, ↓VS.w_not, ↓VS.w_if, ↓VS.w_ch, ↓VS.w_neg, ↓VS.w_fz, ↓VS.w_nil, ↓VS.w_cons, ↓VS.w_amut, ↓VS.w_disp, ↓VS.w_b, ↓VS.w_isi, ↓VS.w_call, ↓VS.w_rev, ↓VS.w_sl, ↓VS.w_mut, ↓VS.w_snil, ↓VS.w_seq, ↓VS.w_set, ↓VS.w_ret, ↓VS.w_expr, ↓VS.w_ifs, ↓VS.w_asg, ↓VS.w_sto, ↓VS.w_for, ↓VS.w_iof, ↓VS.w_rng, ↓VS.w_isx, ↓VS.w_efn, ↓VS.w_try, ↓VS.w_raise, ↓VS.w_m, ↓VS.w_callV, ↓VS.w_comp, ↓VS.w_yes, ↓VS.wO_some, ↓VS.wO_none, ↓VS.wO_map, ↓VS.wO_ite, VS.kMv, VS.k2b, VS.k2, VS.kQ, VS.kAnd, VS.kOr, VS.kNot, VS.kIf, VS.kChc, VS.kChb, VS.kCh, VS.kNeg, VS.frzV, VS.kFz, VS.kConsB, VS.kCons, VS.kMutA, VS.kUn, VS.kDisp, VS.kB, VS.kIsi, VS.kFo, VS.kCall, VS.kRev, VS.kPartB, VS.kPart, VS.kSlc, VS.kSlb, VS.kSl, VS.kMutT, VS.kMutR, VS.kSeq, VS.kSet, VS.kRet, VS.kExpr, VS.kIfS, VS.kAsg, VS.kStoT, VS.kStoI, VS.kSto, VS.kFor, VS.kOf, VS.kRng, VS.kFn, VS.kCompQ, VS.kComp, VS.kIsx, VS.kTry, VS.exName, VS.kM, VS.kMb, VS.kCv, VS.frz, VS.on1, VS.on2, VS.oErr, VS.opSl, VS.opRev, VS.isL, VS.isDc, VS.moAppend, VS.stL, VS.keeps, VS.keep, VS.mkTup, VS.allDat, VS.mkV, VS.pD, VS.pL, VS.pTu, VS.pI, VS.pB, VS.PV.tr, VS.PV.held, VS.toD, VS.toDs, VS.elems, VS.telems, VS.opI, VS.opB, VS.opAdd, VS.opEq, VS.opNe, VS.opIs, VS.opIsNot, VS.isNonT, VS.opIx, VS.subT, VS.datV, VS.ms, VS.noVw, VS.arT, VS.arTs, VS.okM, VS.putM, VS.unM, VS.valsA, VS.argsOut, VS.gNm, VS.gTp, VS.gEach, VS.kidsT, VS.tyT, VS.isTy, VS.bLen, VS.seqN, VS.seqD, VS.bList, VS.bRepr, VS.inR, VS.bSum2, VS.pTi, VS.bIndex, VS.bCount, VS.isLi, VS.opRg, VS.sh_int, VS.sh_bl, VS.sh_str, VS.sh_non, VS.eqv_int, VS.eqv_bl, VS.eqv_str, List.getElem?_cons_zero, List.getElem?_cons_succ, List.length_cons, List.length_nil, List.set_cons_zero, List.set_cons_succ, List.replicate_succ, List.replicate_zero, List.cons_append, List.nil_append, List.map_cons, List.map_nil, Option.map_some, Option.map_none, Option.bind_some, Option.bind_none, if_true, if_false, Bool.true_and, Bool.and_true, Bool.false_and, Bool.and_false, Bool.or_true, Bool.true_or, Bool.false_or, Bool.or_false, List.isEmpty_nil, List.isEmpty_cons, List.nodup_nil, decide_true, Bool.false_eq_true, true_and, and_true, Nat.zero_add, Nat.reduceAdd, Nat.reduceSub, Nat.reduceLT, Option.bind_eq_bind, Option.pure_def]
            exact ⟨_, rfl, rfl⟩
          rw [filter_tt, List.nil_append]
          have ti := toDs_of (fun t => PyData.int (ov z (kept ++ t) : Nat)) (dealT many low high tot)
          have ai := allI_of (fun t => ((ov z (kept ++ t) : Nat) : Int)) (dealT many low high tot)
          simp only [kCompQ, ti, ai, restE, List.getD_cons_zero, List.getD_cons_succ, bMin, bMax, pIs, overs_min C, overs_max C, toDs_map, toDs_ints, allDat_map, allDat_ints, eqv_ints, sh_ints, sh_nil, eqv_nil, sz_0, sz_1, sz_2, sz_3, sz_4, sz_5, sz_6, sz_7, sz_8, sz_9, sz_10, sz_11, sz_12, sz_13, sz_14, sz_15, sz_16, sz_17, sz_18, sz_19, sz_20, sz_21, sz_22, sz_23, sz_24, sz_25, sz_26, sz_27, sz_28, sz_29, sz_30, sz_31, sz_32, sz_33, sz_34, sz_35, sz_36, sz_37, sz_38, sz_39, sz_40, decide_eq_true_eq, Int.reduceLT, Int.reduceLE, Nat.reduceLeDiff, feedT, nd_one, at2_0, at2_1, at3_0, at3_1, at3_2, ix3_1, ix3_2, set3_1, set3_2, ↓VS.w_var, ↓VS.w_mv, ↓VS.w_c, ↓VS.w_2, ↓VS.w_and, ↓VS.w_or, ↓VS.w_not, ↓VS.w_if, ↓VS.w_ch, ↓VS.w_neg, ↓VS.w_fz, ↓VS.w_nil, ↓VS.w_cons, ↓VS.w_amut, ↓VS.w_disp, ↓VS.w_b, ↓VS.w_isi, ↓VS.w_call, ↓VS.w_rev, ↓VS.w_sl, ↓VS.w_mut, ↓VS.w_snil, ↓VS.w_seq, ↓VS.w_set, ↓VS.w_ret, ↓VS.w_expr, ↓VS.w_ifs, ↓VS.w_asg, ↓VS.w_sto, ↓VS.w_for, ↓VS.w_iof, ↓VS.w_rng, ↓VS.w_isx, ↓VS.w_efn, ↓VS.w_try, ↓VS.w_raise, ↓VS.w_m, ↓VS.w_callV, ↓VS.w_comp, ↓VS.w_yes, ↓VS.wO_some, ↓VS.wO_none, ↓VS.wO_map, ↓VS.wO_ite, VS.kMv, VS.k2b, VS.k2, VS.kQ, VS.kAnd, VS.kOr, VS.kNot, VS.kIf, VS.kChc, VS.kChb, VS.kCh, VS.kNeg, VS.frzV, VS.kFz, VS.kConsB, VS.kCons, VS.kMutA, VS.kUn, VS.kDisp, VS.kB, VS.kIsi, VS.kFo, VS.kCall, VS.kRev, VS.kPartB, VS.kPart, VS.kSlc, VS.kSlb, VS.kSl, VS.kMutT, VS.kMutR, VS.kSeq, VS.kSet, VS.kRet, VS.kExpr, VS.kIfS, VS.kAsg, VS.kStoT, VS.kStoI, VS.kSto, VS.kFor, VS.kOf, VS.kRng, VS.kFn, VS.kCompQ, VS.kComp, VS.kIsx, VS.kTry, VS.exName, VS.kM, VS.kMb, VS.kCv, VS.frz, VS.on1, VS.on2, VS.oErr, VS.opSl, VS.opRev, VS.isL, VS.isDc, VS.moAppend, VS.stL, VS.keeps, VS.keep, VS.mkTup, VS.allDat, VS.mkV, VS.pD, VS.pL, VS.pTu, VS.pI, VS.pB, VS.PV.tr, VS.PV.held, VS.toD, VS.toDs, VS.elems, VS.telems, VS.opI, VS.opB, VS.opAdd, VS.opEq, VS.opNe, VS.opIs, VS.opIsNot, VS.isNonT, VS.opIx, VS.subT, VS.datV, VS.ms, VS.noVw, VS.arT, VS.arTs, VS.okM, VS.putM, VS.unM, VS.valsA, VS.argsOut, VS.gNm, VS.gTp, VS.gEach, VS.kidsT, VS.tyT, VS.isTy, VS.bLen, VS.seqN, VS.seqD, VS.bList, VS.bRepr, VS.inR, VS.bSum2, VS.pTi, VS.bIndex, VS.bCount, VS.isLi, VS.opRg, VS.sh_int, VS.sh_bl, VS.sh_str, VS.sh_non, VS.eqv_int, VS.eqv_bl, VS.eqv_str, List.getElem?_cons_zero, List.getElem?_cons_succ, List.length_cons, List.length_nil, List.set_cons_zero, List.set_cons_succ, List.replicate_succ, List.replicate_zero, List.cons_append, List.nil_append, List.map_cons, List.map_nil, Option.map_some, Option.map_none, Option.bind_some, Option.bind_none, if_true, if_false, Bool.true_and, Bool.and_true, Bool.false_and, Bool.and_false, Bool.or_true, Bool.true_or, Bool.false_or, Bool.or_false, List.isEmpty_nil, List.isEmpty_cons, List.nodup_nil, decide_true, Bool.false_eq_true, true_and, and_true, Nat.zero_add, Nat.reduceAdd, Nat.reduceSub, Nat.reduceLT, Option.bind_eq_bind, Option.pure_def]
          refine e_said_told C zb ?_
          have q1 := @lo_nonneg many low high (meantT tot many low high false) z
          have q2 := @lo_bound many low high (meantT tot many low high false) z (C.kc false).t2
          have q3 := @lo_nonneg many (0 - high) (0 - low) (0 - meantT tot many low high true) (1 - z)
          have q4 := @lo_bound many (0 - high) (0 - low) (0 - meantT tot many low high true) (1 - z) (C.kc true).neg.t2
          have q5 : ov z kept ≤ kept.length := ov_le z kept
          have rt := repr_told (a := ov z kept + leastOver many low high (meantT tot many low high false) z) (b := ov z kept + many - leastOver many (0 - high) (0 - low) (0 - meantT tot many low high true) (1 - z)) (by omega) (by omega)
          simp only [rt, decide_true, Bool.not_true, Bool.false_eq_true, if_false, toDs_map, toDs_ints, allDat_map, allDat_ints, eqv_ints, sh_ints, sh_nil, eqv_nil, sz_0, sz_1, sz_2, sz_3, sz_4, sz_5, sz_6, sz_7, sz_8, sz_9, sz_10, sz_11, sz_12, sz_13, sz_14, sz_15, sz_16, sz_17, sz_18, sz_19, sz_20, sz_21, sz_22, sz_23, sz_24, sz_25, sz_26, sz_27, sz_28, sz_29, sz_30, sz_31, sz_32, sz_33, sz_34, sz_35, sz_36, sz_37, sz_38, sz_39, sz_40, decide_eq_true_eq, Int.reduceLT, Int.reduceLE, Nat.reduceLeDiff, feedT, nd_one, at2_0, at2_1, at3_0, at3_1, at3_2, ix3_1, ix3_2, set3_1, set3_2, ↓VS.w_var, ↓VS.w_mv, ↓VS.w_c, ↓VS.w_2, ↓VS.w_and, ↓VS.w_or, ↓VS.w_not, ↓VS.w_if, ↓VS.w_ch, ↓VS.w_neg, ↓VS.w_fz, ↓VS.w_nil, ↓VS.w_cons, ↓VS.w_amut, ↓VS.w_disp, ↓VS.w_b, ↓VS.w_isi, ↓VS.w_call, ↓VS.w_rev, ↓VS.w_sl, ↓VS.w_mut, ↓VS.w_snil, ↓VS.w_seq, ↓VS.w_set, ↓VS.w_ret, ↓VS.w_expr, ↓VS.w_ifs, ↓VS.w_asg, ↓VS.w_sto, ↓VS.w_for, ↓VS.w_iof, ↓VS.w_rng, ↓VS.w_isx, ↓VS.w_efn, ↓VS.w_try, ↓VS.w_raise, ↓VS.w_m, ↓VS.w_callV, ↓VS.w_comp, ↓VS.w_yes, ↓VS.wO_some, ↓VS.wO_none, ↓VS.wO_map, ↓VS.wO_ite, VS.kMv, VS.k2b, VS.k2, VS.kQ, VS.kAnd, VS.kOr, VS.kNot, VS.kIf, VS.kChc, VS.kChb, VS.kCh, VS.kNeg, VS.frzV, VS.kFz, VS.kConsB, VS.kCons, VS.kMutA, VS.kUn, VS.kDisp, VS.kB, VS.kIsi, VS.kFo, VS.kCall, VS.kRev, VS.kPartB, VS.kPart, VS.kSlc, VS.kSlb, VS.kSl, VS.kMutT, VS.kMutR, VS.kSeq, VS.kSet, VS.kRet, VS.kExpr, VS.kIfS, VS.kAsg, VS.kStoT, VS.kStoI, VS.kSto, VS.kFor, VS.kOf, VS.kRng, VS.kFn, VS.kCompQ, VS.kComp, VS.kIsx, VS.kTry, VS.exName, VS.kM, VS.kMb, VS.kCv, VS.frz, VS.on1, VS.on2, VS.oErr, VS.opSl, VS.opRev, VS.isL, VS.isDc, VS.moAppend, VS.stL, VS.keeps, VS.keep, VS.mkTup, VS.allDat, VS.mkV, VS.pD, VS.pL, VS.pTu, VS.pI, VS.pB, VS.PV.tr, VS.PV.held, VS.toD, VS.toDs, VS.elems, VS.telems, VS.opI, VS.opB, VS.opAdd, VS.opEq, VS.opNe, VS.opIs, VS.opIsNot, VS.isNonT, VS.opIx, VS.subT, VS.datV, VS.ms, VS.noVw, VS.arT, VS.arTs, VS.okM, VS.putM, VS.unM, VS.valsA, VS.argsOut, VS.gNm, VS.gTp, VS.gEach, VS.kidsT, VS.tyT, VS.isTy, VS.bLen, VS.seqN, VS.seqD, VS.bList, VS.bRepr, VS.inR, VS.bSum2, VS.pTi, VS.bIndex, VS.bCount, VS.isLi, VS.opRg, VS.sh_int, VS.sh_bl, VS.sh_str, VS.sh_non, VS.eqv_int, VS.eqv_bl, VS.eqv_str, List.getElem?_cons_zero, List.getElem?_cons_succ, List.length_cons, List.length_nil, List.set_cons_zero, List.set_cons_succ, List.replicate_succ, List.replicate_zero, List.cons_append, List.nil_append, List.map_cons, List.map_nil, Option.map_some, Option.map_none, Option.bind_some, Option.bind_none, if_true, if_false, Bool.true_and, Bool.and_true, Bool.false_and, Bool.and_false, Bool.or_true, Bool.true_or, Bool.false_or, Bool.or_false, List.isEmpty_nil, List.isEmpty_cons, List.nodup_nil, decide_true, Bool.false_eq_true, true_and, and_true, Nat.zero_add, Nat.reduceAdd, Nat.reduceSub, Nat.reduceLT, Option.bind_eq_bind, Option.pure_def]
          exact ⟨zs, _, _, _, _, _, _, rfl, hr, hc, rfl⟩
        · have ne2 : (!decide ((dealT many low high tot).map tupI = [])) = false := by simp [emp, deal_none can]
          simp only [sh_tups, eqv_lnil, ne2, toDs_map, toDs_ints, allDat_map, allDat_ints, eqv_ints, sh_ints, sh_nil, eqv_nil, sz_0, sz_1, sz_2, sz_3, sz_4, sz_5, sz_6, sz_7, sz_8, sz_9, sz_10, sz_11, sz_12, sz_13, sz_14, sz_15, sz_16, sz_17, sz_18, sz_19, sz_20, sz_21, sz_22, sz_23, sz_24, sz_25, sz_26, sz_27, sz_28, sz_29, sz_30, sz_31, sz_32, sz_33, sz_34, sz_35, sz_36, sz_37, sz_38, sz_39, sz_40, decide_eq_true_eq, Int.reduceLT, Int.reduceLE, Nat.reduceLeDiff, feedT, nd_one, at2_0, at2_1, at3_0, at3_1, at3_2, ix3_1, ix3_2, set3_1, set3_2, ↓VS.w_var, ↓VS.w_mv, ↓VS.w_c, ↓VS.w_2, ↓VS.w_and, ↓VS.w_or, ↓VS.w_not, ↓VS.w_if, ↓VS.w_ch, ↓VS.w_neg, ↓VS.w_fz, ↓VS.w_nil, ↓VS.w_cons, ↓VS.w_amut, ↓VS.w_disp, ↓VS.w_b, ↓VS.w_isi, ↓VS.w_call, ↓VS.w_rev, ↓VS.w_sl, ↓VS.w_mut, ↓VS.w_snil, ↓VS.w_seq, ↓VS.w_set, ↓VS.w_ret, ↓VS.w_expr, ↓VS.w_ifs, ↓VS.w_asg, ↓VS.w_sto, ↓VS.w_for, ↓VS.w_iof, ↓VS.w_rng, ↓VS.w_isx, ↓VS.w_efn, ↓VS.w_try, ↓VS.w_raise, ↓VS.w_m, ↓VS.w_callV, ↓VS.w_comp, ↓VS.w_yes, ↓VS.wO_some, ↓VS.wO_none, ↓VS.wO_map, ↓VS.wO_ite, VS.kMv, VS.k2b, VS.k2, VS.kQ, VS.kAnd, VS.kOr, VS.kNot, VS.kIf, VS.kChc, VS.kChb, VS.kCh, VS.kNeg, VS.frzV, VS.kFz, VS.kConsB, VS.kCons, VS.kMutA, VS.kUn, VS.kDisp, VS.kB, VS.kIsi, VS.kFo, VS.kCall, VS.kRev, VS.kPartB, VS.kPart, VS.kSlc, VS.kSlb, VS.kSl, VS.kMutT, VS.kMutR, VS.kSeq, VS.kSet, VS.kRet, VS.kExpr, VS.kIfS, VS.kAsg, VS.kStoT, VS.kStoI, VS.kSto, VS.kFor, VS.kOf, VS.kRng, VS.kFn, VS.kCompQ, VS.kComp, VS.kIsx, VS.kTry, VS.exName, VS.kM, VS.kMb, VS.kCv, VS.frz, VS.on1, VS.on2, VS.oErr, VS.opSl, VS.opRev, VS.isL, VS.isDc, VS.moAppend, VS.stL, VS.keeps, VS.keep, VS.mkTup, VS.allDat, VS.mkV, VS.pD, VS.pL, VS.pTu, VS.pI, VS.pB, VS.PV.tr, VS.PV.held, VS.toD, VS.toDs, VS.elems, VS.telems, VS.opI, VS.opB, VS.opAdd, VS.opEq, VS.opNe, VS.opIs, VS.opIsNot, VS.isNonT, VS.opIx, VS.subT, VS.datV, VS.ms, VS.noVw, VS.arT, VS.arTs, VS.okM, VS.putM, VS.unM, VS.valsA, VS.argsOut, VS.gNm, VS.gTp, VS.gEach, VS.kidsT, VS.tyT, VS.isTy, VS.bLen, VS.seqN, VS.seqD, VS.bList, VS.bRepr, VS.inR, VS.bSum2, VS.pTi, VS.bIndex, VS.bCount, VS.isLi, VS.opRg, VS.sh_int, VS.sh_bl, VS.sh_str, VS.sh_non, VS.eqv_int, VS.eqv_bl, VS.eqv_str, List.getElem?_cons_zero, List.getElem?_cons_succ, List.length_cons, List.length_nil, List.set_cons_zero, List.set_cons_succ, List.replicate_succ, List.replicate_zero, List.cons_append, List.nil_append, List.map_cons, List.map_nil, Option.map_some, Option.map_none, Option.bind_some, Option.bind_none, if_true, if_false, Bool.true_and, Bool.and_true, Bool.false_and, Bool.and_false, Bool.or_true, Bool.true_or, Bool.false_or, Bool.or_false, List.isEmpty_nil, List.isEmpty_cons, List.nodup_nil, decide_true, Bool.false_eq_true, true_and, and_true, Nat.zero_add, Nat.reduceAdd, Nat.reduceSub, Nat.reduceLT, Option.bind_eq_bind, Option.pure_def]
          refine e_said_no c can ?_
          simp only [repr_no, decide_true, Bool.not_true, Bool.false_eq_true, if_false, toDs_map, toDs_ints, allDat_map, allDat_ints, eqv_ints, sh_ints, sh_nil, eqv_nil, sz_0, sz_1, sz_2, sz_3, sz_4, sz_5, sz_6, sz_7, sz_8, sz_9, sz_10, sz_11, sz_12, sz_13, sz_14, sz_15, sz_16, sz_17, sz_18, sz_19, sz_20, sz_21, sz_22, sz_23, sz_24, sz_25, sz_26, sz_27, sz_28, sz_29, sz_30, sz_31, sz_32, sz_33, sz_34, sz_35, sz_36, sz_37, sz_38, sz_39, sz_40, decide_eq_true_eq, Int.reduceLT, Int.reduceLE, Nat.reduceLeDiff, feedT, nd_one, at2_0, at2_1, at3_0, at3_1, at3_2, ix3_1, ix3_2, set3_1, set3_2, ↓VS.w_var, ↓VS.w_mv, ↓VS.w_c, ↓VS.w_2, ↓VS.w_and, ↓VS.w_or, ↓VS.w_not, ↓VS.w_if, ↓VS.w_ch, ↓VS.w_neg, ↓VS.w_fz, ↓VS.w_nil, ↓VS.w_cons, ↓VS.w_amut, ↓VS.w_disp, ↓VS.w_b, ↓VS.w_isi, ↓VS.w_call, ↓VS.w_rev, ↓VS.w_sl, ↓VS.w_mut, ↓VS.w_snil, ↓VS.w_seq, ↓VS.w_set, ↓VS.w_ret, ↓VS.w_expr, ↓VS.w_ifs, ↓VS.w_asg, ↓VS.w_sto, ↓VS.w_for, ↓VS.w_iof, ↓VS.w_rng, ↓VS.w_isx, ↓VS.w_efn, ↓VS.w_try, ↓VS.w_raise, ↓VS.w_m, ↓VS.w_callV, ↓VS.w_comp, ↓VS.w_yes, ↓VS.wO_some, ↓VS.wO_none, ↓VS.wO_map, ↓VS.wO_ite, VS.kMv, VS.k2b, VS.k2, VS.kQ, VS.kAnd, VS.kOr, VS.kNot, VS.kIf, VS.kChc, VS.kChb, VS.kCh, VS.kNeg, VS.frzV, VS.kFz, VS.kConsB, VS.kCons, VS.kMutA, VS.kUn, VS.kDisp, VS.kB, VS.kIsi, VS.kFo, VS.kCall, VS.kRev, VS.kPartB, VS.kPart, VS.kSlc, VS.kSlb, VS.kSl, VS.kMutT, VS.kMutR, VS.kSeq, VS.kSet, VS.kRet, VS.kExpr, VS.kIfS, VS.kAsg, VS.kStoT, VS.kStoI, VS.kSto, VS.kFor, VS.kOf, VS.kRng, VS.kFn, VS.kCompQ, VS.kComp, VS.kIsx, VS.kTry, VS.exName, VS.kM, VS.kMb, VS.kCv, VS.frz, VS.on1, VS.on2, VS.oErr, VS.opSl, VS.opRev, VS.isL, VS.isDc, VS.moAppend, VS.stL, VS.keeps, VS.keep, VS.mkTup, VS.allDat, VS.mkV, VS.pD, VS.pL, VS.pTu, VS.pI, VS.pB, VS.PV.tr, VS.PV.held, VS.toD, VS.toDs, VS.elems, VS.telems, VS.opI, VS.opB, VS.opAdd, VS.opEq, VS.opNe, VS.opIs, VS.opIsNot, VS.isNonT, VS.opIx, VS.subT, VS.datV, VS.ms, VS.noVw, VS.arT, VS.arTs, VS.okM, VS.putM, VS.unM, VS.valsA, VS.argsOut, VS.gNm, VS.gTp, VS.gEach, VS.kidsT, VS.tyT, VS.isTy, VS.bLen, VS.seqN, VS.seqD, VS.bList, VS.bRepr, VS.inR, VS.bSum2, VS.pTi, VS.bIndex, VS.bCount, VS.isLi, VS.opRg, VS.sh_int, VS.sh_bl, VS.sh_str, VS.sh_non, VS.eqv_int, VS.eqv_bl, VS.eqv_str, List.getElem?_cons_zero, List.getElem?_cons_succ, List.length_cons, List.length_nil, List.set_cons_zero, List.set_cons_succ, List.replicate_succ, List.replicate_zero, List.cons_append, List.nil_append, List.map_cons, List.map_nil, Option.map_some, Option.map_none, Option.bind_some, Option.bind_none, if_true, if_false, Bool.true_and, Bool.and_true, Bool.false_and, Bool.and_false, Bool.or_true, Bool.true_or, Bool.false_or, Bool.or_false, List.isEmpty_nil, List.isEmpty_cons, List.nodup_nil, decide_true, Bool.false_eq_true, true_and, and_true, Nat.zero_add, Nat.reduceAdd, Nat.reduceSub, Nat.reduceLT, Option.bind_eq_bind, Option.pure_def]
          exact ⟨zs, _, _, _, _, _, _, rfl, hr, hc, rfl⟩
    · rintro env ⟨zs, y10, y11, y12, y13, y14, y15, _, _, hc, rfl⟩
      exact ⟨a2, b2, _, _, _, _, _, _, _, _, _, _, _, _, _, _, rfl, g3, by omega, hc⟩
  · rintro env ⟨a, b, x2, x3, x4, x5, x6, x7, x8, x9, x10, x11, x12, x13, x14, x15, rfl, h0, hl, hc⟩
    simp only [toDs_map, toDs_ints, allDat_map, allDat_ints, eqv_ints, sh_ints, sh_nil, eqv_nil, sz_0, sz_1, sz_2, sz_3, sz_4, sz_5, sz_6, sz_7, sz_8, sz_9, sz_10, sz_11, sz_12, sz_13, sz_14, sz_15, sz_16, sz_17, sz_18, sz_19, sz_20, sz_21, sz_22, sz_23, sz_24, sz_25, sz_26, sz_27, sz_28, sz_29, sz_30, sz_31, sz_32, sz_33, sz_34, sz_35, sz_36, sz_37, sz_38, sz_39, sz_40, decide_eq_true_eq, Int.reduceLT, Int.reduceLE, Nat.reduceLeDiff, feedT, nd_one, at2_0, at2_1, at3_0, at3_1, at3_2, ix3_1, ix3_2, set3_1, set3_2, ↓VS.w_var, ↓VS.w_mv, ↓VS.w_c, ↓VS.w_2, ↓VS.w_and, ↓VS.w_or, ↓VS.w_not, ↓VS.w_if, ↓VS.w_ch, ↓VS.w_neg, ↓VS.w_fz, ↓VS.w_nil, ↓VS.w_cons, ↓VS.w_amut, ↓VS.w_disp, ↓VS.w_b, ↓VS.w_isi, ↓VS.w_call, ↓VS.w_rev, ↓VS.w_sl, ↓VS.w_mut, ↓VS.w_snil, ↓VS.w_seq, ↓VS.w_set, ↓VS.w_ret, ↓VS.w_expr, ↓VS.w_ifs, ↓VS.w_asg, ↓VS.w_sto, ↓VS.w_for, ↓VS.w_iof, ↓VS.w_rng, ↓VS.w_isx, ↓VS.w_efn, ↓VS.w_try, ↓VS.w_raise, ↓VS.w_m, ↓VS.w_callV, ↓VS.w_comp, ↓VS.w_yes, ↓VS.wO_some, ↓VS.wO_none, ↓VS.wO_map, ↓VS.wO_ite, VS.kMv, VS.k2b, VS.k2, VS.kQ, VS.kAnd, VS.kOr, VS.kNot, VS.kIf, VS.kChc, VS.kChb, VS.kCh, VS.kNeg, VS.frzV, VS.kFz, VS.kConsB, VS.kCons, VS.kMutA, VS.kUn, VS.kDisp, VS.kB, VS.kIsi, VS.kFo, VS.kCall, VS.kRev, VS.kPartB, VS.kPart, VS.kSlc, VS.kSlb, VS.kSl, VS.kMutT, VS.kMutR, VS.kSeq, VS.kSet, VS.kRet, VS.kExpr, VS.kIfS, VS.kAsg, VS.kStoT, VS.kStoI, VS.kSto, VS.kFor, VS.kOf, VS.kRng, VS.kFn, VS.kCompQ, VS.kComp, VS.kIsx, VS.kTry, VS.exName, VS.kM, VS.kMb, VS.kCv, VS.frz, VS.on1, VS.on2, VS.oErr, VS.opSl, VS.opRev, VS.isL, VS.isDc, VS.moAppend, VS.stL, VS.keeps, VS.keep, VS.mkTup, VS.allDat, VS.mkV, VS.pD, VS.pL, VS.pTu, VS.pI, VS.pB, VS.PV.tr, VS.PV.held, VS.toD, VS.toDs, VS.elems, VS.telems, VS.opI, VS.opB, VS.opAdd, VS.opEq, VS.opNe, VS.opIs, VS.opIsNot, VS.isNonT, VS.opIx, VS.subT, VS.datV, VS.ms, VS.noVw, VS.arT, VS.arTs, VS.okM, VS.putM, VS.unM, VS.valsA, VS.argsOut, VS.gNm, VS.gTp, VS.gEach, VS.kidsT, VS.tyT, VS.isTy, VS.bLen, VS.seqN, VS.seqD, VS.bList, VS.bRepr, VS.inR, VS.bSum2, VS.pTi, VS.bIndex, VS.bCount, VS.isLi, VS.opRg, VS.sh_int, VS.sh_bl, VS.sh_str, VS.sh_non, VS.eqv_int, VS.eqv_bl, VS.eqv_str, List.getElem?_cons_zero, List.getElem?_cons_succ, List.length_cons, List.length_nil, List.set_cons_zero, List.set_cons_succ, List.replicate_succ, List.replicate_zero, List.cons_append, List.nil_append, List.map_cons, List.map_nil, Option.map_some, Option.map_none, Option.bind_some, Option.bind_none, if_true, if_false, Bool.true_and, Bool.and_true, Bool.false_and, Bool.and_false, Bool.or_true, Bool.true_or, Bool.false_or, Bool.or_false, List.isEmpty_nil, List.isEmpty_cons, List.nodup_nil, decide_true, Bool.false_eq_true, true_and, and_true, Nat.zero_add, Nat.reduceAdd, Nat.reduceSub, Nat.reduceLT, Option.bind_eq_bind, Option.pure_def]
    exact ⟨_, rfl⟩
end k62

namespace k62
open PySem PySem.Spec PyProof.Rows L2 VS
theorem all_mk {lw : PySem.W.OpenLaw} {w : World} {K : PySem.W.Frag} {h : Heap} {mg : Str → Option Value} {fa : Addr} (X : K.In h) (G : h.Ns mainGlobals mg) (hfa : mg "law" = some (.ref fa)) (says : LawSays 63 F_law)
    {f_least_over : Addr} {od_least_over an_least_over : Option Addr} {sl_least_over : Array (Option Value)} {oc_least_over kV_least_over dc_least_over pm_least_over cd_least_over ct_least_over : Value}
    {f_meant : Addr} {od_meant an_meant : Option Addr} {sl_meant : Array (Option Value)} {oc_meant kV_meant dc_meant pm_meant cd_meant ct_meant : Value}
    {f_about : Addr} {od_about an_about : Option Addr} {sl_about : Array (Option Value)} {oc_about kV_about dc_about pm_about cd_about ct_about : Value}
    {f_over_bounds : Addr} {od_over_bounds an_over_bounds : Option Addr} {sl_over_bounds : Array (Option Value)} {oc_over_bounds kV_over_bounds dc_over_bounds pm_over_bounds cd_over_bounds ct_over_bounds : Value}
    {f_law_e_pen : Addr} {od_law_e_pen an_law_e_pen : Option Addr} {sl_law_e_pen : Array (Option Value)} {oc_law_e_pen kV_law_e_pen dc_law_e_pen pm_law_e_pen cd_law_e_pen ct_law_e_pen : Value}
    {f_law_e_fresh : Addr} {od_law_e_fresh an_law_e_fresh : Option Addr} {sl_law_e_fresh : Array (Option Value)} {oc_law_e_fresh kV_law_e_fresh dc_law_e_fresh pm_law_e_fresh cd_law_e_fresh ct_law_e_fresh : Value}
    {f_law_e_take : Addr} {od_law_e_take an_law_e_take : Option Addr} {sl_law_e_take : Array (Option Value)} {oc_law_e_take kV_law_e_take dc_law_e_take pm_law_e_take cd_law_e_take ct_law_e_take : Value}
    {f_law_e_case : Addr} {od_law_e_case an_law_e_case : Option Addr} {sl_law_e_case : Array (Option Value)} {oc_law_e_case kV_law_e_case dc_law_e_case pm_law_e_case cd_law_e_case ct_law_e_case : Value}
    {f_law_e_dealings : Addr} {od_law_e_dealings an_law_e_dealings : Option Addr} {sl_law_e_dealings : Array (Option Value)} {oc_law_e_dealings kV_law_e_dealings dc_law_e_dealings pm_law_e_dealings cd_law_e_dealings ct_law_e_dealings : Value}
    {f_law_e_numbers : Addr} {od_law_e_numbers an_law_e_numbers : Option Addr} {sl_law_e_numbers : Array (Option Value)} {oc_law_e_numbers kV_law_e_numbers dc_law_e_numbers pm_law_e_numbers cd_law_e_numbers ct_law_e_numbers : Value}
    {f_law_e_said : Addr} {od_law_e_said an_law_e_said : Option Addr} {sl_law_e_said : Array (Option Value)} {oc_law_e_said kV_law_e_said dc_law_e_said pm_law_e_said cd_law_e_said ct_law_e_said : Value}
    {f_law_e_over : Addr} {od_law_e_over an_law_e_over : Option Addr} {sl_law_e_over : Array (Option Value)} {oc_law_e_over kV_law_e_over dc_law_e_over pm_law_e_over cd_law_e_over ct_law_e_over : Value}
    {f_law : Addr} {od_law an_law : Option Addr} {sl_law : Array (Option Value)} {oc_law kV_law dc_law pm_law cd_law ct_law : Value}
    {c_Clash : Addr}
    {c_NoBack : Addr}
    {c_NoDealing : Addr}
    {c_NoGap : Addr}
    {c_NoHouse : Addr}
    {c_NoMore : Addr}
    {c_NoPiece : Addr}
    {c_NoPlace : Addr}
    {c_NoRow : Addr}
    {c_NoRun : Addr}
    {c_NoShifts : Addr}
    {c_NoText : Addr}
    {c_NoWood : Addr}
    {c_NotOne : Addr}
    {c_NotRight : Addr}
    {c_NotWhole : Addr}
    {c_TooMany : Addr}
    {c_WoodError : Addr}
    {gt_NoDealing : Option Value}
    (a_least_over : PySem.W.nsIn K mainGlobals "least_over" = some (some (.ref f_least_over)))
    (l_least_over : K.lookup f_least_over = some ⟨oc_least_over, od_least_over, .func (PySem.W.fnOf "least_over" "least_over" (defArgs s_least_over) (defBody s_least_over) (defScope s_least_over) .none kV_least_over dc_least_over pm_least_over an_least_over cd_least_over ct_least_over), sl_least_over⟩)
    (c_least_over : PySem.W.codeIn K cd_least_over "least_over" = true)
    (k_least_over : PySem.W.keepIn K (.ref f_least_over) = true)
    (a_meant : PySem.W.nsIn K mainGlobals "meant" = some (some (.ref f_meant)))
    (l_meant : K.lookup f_meant = some ⟨oc_meant, od_meant, .func (PySem.W.fnOf "meant" "meant" (defArgs s_meant) (defBody s_meant) (defScope s_meant) .none kV_meant dc_meant pm_meant an_meant cd_meant ct_meant), sl_meant⟩)
    (c_meant : PySem.W.codeIn K cd_meant "meant" = true)
    (k_meant : PySem.W.keepIn K (.ref f_meant) = true)
    (a_about : PySem.W.nsIn K mainGlobals "about" = some (some (.ref f_about)))
    (l_about : K.lookup f_about = some ⟨oc_about, od_about, .func (PySem.W.fnOf "about" "about" (defArgs s_about) (defBody s_about) (defScope s_about) .none kV_about dc_about pm_about an_about cd_about ct_about), sl_about⟩)
    (c_about : PySem.W.codeIn K cd_about "about" = true)
    (k_about : PySem.W.keepIn K (.ref f_about) = true)
    (a_over_bounds : PySem.W.nsIn K mainGlobals "over_bounds" = some (some (.ref f_over_bounds)))
    (l_over_bounds : K.lookup f_over_bounds = some ⟨oc_over_bounds, od_over_bounds, .func (PySem.W.fnOf "over_bounds" "over_bounds" (defArgs s_over_bounds) (defBody s_over_bounds) (defScope s_over_bounds) .none kV_over_bounds dc_over_bounds pm_over_bounds an_over_bounds cd_over_bounds ct_over_bounds), sl_over_bounds⟩)
    (c_over_bounds : PySem.W.codeIn K cd_over_bounds "over_bounds" = true)
    (k_over_bounds : PySem.W.keepIn K (.ref f_over_bounds) = true)
    (a_law_e_pen : PySem.W.nsIn K mainGlobals "_law_e_pen" = some (some (.ref f_law_e_pen)))
    (l_law_e_pen : K.lookup f_law_e_pen = some ⟨oc_law_e_pen, od_law_e_pen, .func (PySem.W.fnOf "_law_e_pen" "_law_e_pen" (defArgs s_law_e_pen) (defBody s_law_e_pen) (defScope s_law_e_pen) .none kV_law_e_pen dc_law_e_pen pm_law_e_pen an_law_e_pen cd_law_e_pen ct_law_e_pen), sl_law_e_pen⟩)
    (c_law_e_pen : PySem.W.codeIn K cd_law_e_pen "_law_e_pen" = true)
    (k_law_e_pen : PySem.W.keepIn K (.ref f_law_e_pen) = true)
    (a_law_e_fresh : PySem.W.nsIn K mainGlobals "_law_e_fresh" = some (some (.ref f_law_e_fresh)))
    (l_law_e_fresh : K.lookup f_law_e_fresh = some ⟨oc_law_e_fresh, od_law_e_fresh, .func (PySem.W.fnOf "_law_e_fresh" "_law_e_fresh" (defArgs s_law_e_fresh) (defBody s_law_e_fresh) (defScope s_law_e_fresh) .none kV_law_e_fresh dc_law_e_fresh pm_law_e_fresh an_law_e_fresh cd_law_e_fresh ct_law_e_fresh), sl_law_e_fresh⟩)
    (c_law_e_fresh : PySem.W.codeIn K cd_law_e_fresh "_law_e_fresh" = true)
    (k_law_e_fresh : PySem.W.keepIn K (.ref f_law_e_fresh) = true)
    (a_law_e_take : PySem.W.nsIn K mainGlobals "_law_e_take" = some (some (.ref f_law_e_take)))
    (l_law_e_take : K.lookup f_law_e_take = some ⟨oc_law_e_take, od_law_e_take, .func (PySem.W.fnOf "_law_e_take" "_law_e_take" (defArgs s_law_e_take) (defBody s_law_e_take) (defScope s_law_e_take) .none kV_law_e_take dc_law_e_take pm_law_e_take an_law_e_take cd_law_e_take ct_law_e_take), sl_law_e_take⟩)
    (c_law_e_take : PySem.W.codeIn K cd_law_e_take "_law_e_take" = true)
    (k_law_e_take : PySem.W.keepIn K (.ref f_law_e_take) = true)
    (a_law_e_case : PySem.W.nsIn K mainGlobals "_law_e_case" = some (some (.ref f_law_e_case)))
    (l_law_e_case : K.lookup f_law_e_case = some ⟨oc_law_e_case, od_law_e_case, .func (PySem.W.fnOf "_law_e_case" "_law_e_case" (defArgs s_law_e_case) (defBody s_law_e_case) (defScope s_law_e_case) .none kV_law_e_case dc_law_e_case pm_law_e_case an_law_e_case cd_law_e_case ct_law_e_case), sl_law_e_case⟩)
    (c_law_e_case : PySem.W.codeIn K cd_law_e_case "_law_e_case" = true)
    (k_law_e_case : PySem.W.keepIn K (.ref f_law_e_case) = true)
    (a_law_e_dealings : PySem.W.nsIn K mainGlobals "_law_e_dealings" = some (some (.ref f_law_e_dealings)))
    (l_law_e_dealings : K.lookup f_law_e_dealings = some ⟨oc_law_e_dealings, od_law_e_dealings, .func (PySem.W.fnOf "_law_e_dealings" "_law_e_dealings" (defArgs s_law_e_dealings) (defBody s_law_e_dealings) (defScope s_law_e_dealings) .none kV_law_e_dealings dc_law_e_dealings pm_law_e_dealings an_law_e_dealings cd_law_e_dealings ct_law_e_dealings), sl_law_e_dealings⟩)
    (c_law_e_dealings : PySem.W.codeIn K cd_law_e_dealings "_law_e_dealings" = true)
    (k_law_e_dealings : PySem.W.keepIn K (.ref f_law_e_dealings) = true)
    (a_law_e_numbers : PySem.W.nsIn K mainGlobals "_law_e_numbers" = some (some (.ref f_law_e_numbers)))
    (l_law_e_numbers : K.lookup f_law_e_numbers = some ⟨oc_law_e_numbers, od_law_e_numbers, .func (PySem.W.fnOf "_law_e_numbers" "_law_e_numbers" (defArgs s_law_e_numbers) (defBody s_law_e_numbers) (defScope s_law_e_numbers) .none kV_law_e_numbers dc_law_e_numbers pm_law_e_numbers an_law_e_numbers cd_law_e_numbers ct_law_e_numbers), sl_law_e_numbers⟩)
    (c_law_e_numbers : PySem.W.codeIn K cd_law_e_numbers "_law_e_numbers" = true)
    (k_law_e_numbers : PySem.W.keepIn K (.ref f_law_e_numbers) = true)
    (a_law_e_said : PySem.W.nsIn K mainGlobals "_law_e_said" = some (some (.ref f_law_e_said)))
    (l_law_e_said : K.lookup f_law_e_said = some ⟨oc_law_e_said, od_law_e_said, .func (PySem.W.fnOf "_law_e_said" "_law_e_said" (defArgs s_law_e_said) (defBody s_law_e_said) (defScope s_law_e_said) .none kV_law_e_said dc_law_e_said pm_law_e_said an_law_e_said cd_law_e_said ct_law_e_said), sl_law_e_said⟩)
    (c_law_e_said : PySem.W.codeIn K cd_law_e_said "_law_e_said" = true)
    (k_law_e_said : PySem.W.keepIn K (.ref f_law_e_said) = true)
    (a_law_e_over : PySem.W.nsIn K mainGlobals "_law_e_over" = some (some (.ref f_law_e_over)))
    (l_law_e_over : K.lookup f_law_e_over = some ⟨oc_law_e_over, od_law_e_over, .func (PySem.W.fnOf "_law_e_over" "_law_e_over" (defArgs s_law_e_over) (defBody s_law_e_over) (defScope s_law_e_over) .none kV_law_e_over dc_law_e_over pm_law_e_over an_law_e_over cd_law_e_over ct_law_e_over), sl_law_e_over⟩)
    (c_law_e_over : PySem.W.codeIn K cd_law_e_over "_law_e_over" = true)
    (k_law_e_over : PySem.W.keepIn K (.ref f_law_e_over) = true)
    (a_law : PySem.W.nsIn K mainGlobals "law" = some (some (.ref f_law)))
    (l_law : K.lookup f_law = some ⟨oc_law, od_law, .func (PySem.W.fnOf "law" "law" (defArgs s_law) (defBody s_law) (defScope s_law) .none kV_law dc_law pm_law an_law cd_law ct_law), sl_law⟩)
    (c_law : PySem.W.codeIn K cd_law "law" = true)
    (k_law : PySem.W.keepIn K (.ref f_law) = true)
    (z_ValueError : PySem.W.nsIn K mainGlobals "ValueError" = some none)
    (z_isinstance : PySem.W.nsIn K mainGlobals "isinstance" = some none)
    (z_len : PySem.W.nsIn K mainGlobals "len" = some none)
    (z_list : PySem.W.nsIn K mainGlobals "list" = some none)
    (z_max : PySem.W.nsIn K mainGlobals "max" = some none)
    (z_min : PySem.W.nsIn K mainGlobals "min" = some none)
    (z_range : PySem.W.nsIn K mainGlobals "range" = some none)
    (z_repr : PySem.W.nsIn K mainGlobals "repr" = some none)
    (z_sum : PySem.W.nsIn K mainGlobals "sum" = some none)
    (n_Clash : PySem.W.nsIn K mainGlobals "Clash" = some (some (.ref c_Clash)))
    (n_NoBack : PySem.W.nsIn K mainGlobals "NoBack" = some (some (.ref c_NoBack)))
    (n_NoDealing : PySem.W.nsIn K mainGlobals "NoDealing" = some (some (.ref c_NoDealing)))
    (n_NoGap : PySem.W.nsIn K mainGlobals "NoGap" = some (some (.ref c_NoGap)))
    (n_NoHouse : PySem.W.nsIn K mainGlobals "NoHouse" = some (some (.ref c_NoHouse)))
    (n_NoMore : PySem.W.nsIn K mainGlobals "NoMore" = some (some (.ref c_NoMore)))
    (n_NoPiece : PySem.W.nsIn K mainGlobals "NoPiece" = some (some (.ref c_NoPiece)))
    (n_NoPlace : PySem.W.nsIn K mainGlobals "NoPlace" = some (some (.ref c_NoPlace)))
    (n_NoRow : PySem.W.nsIn K mainGlobals "NoRow" = some (some (.ref c_NoRow)))
    (n_NoRun : PySem.W.nsIn K mainGlobals "NoRun" = some (some (.ref c_NoRun)))
    (n_NoShifts : PySem.W.nsIn K mainGlobals "NoShifts" = some (some (.ref c_NoShifts)))
    (n_NoText : PySem.W.nsIn K mainGlobals "NoText" = some (some (.ref c_NoText)))
    (n_NoWood : PySem.W.nsIn K mainGlobals "NoWood" = some (some (.ref c_NoWood)))
    (n_NotOne : PySem.W.nsIn K mainGlobals "NotOne" = some (some (.ref c_NotOne)))
    (n_NotRight : PySem.W.nsIn K mainGlobals "NotRight" = some (some (.ref c_NotRight)))
    (n_NotWhole : PySem.W.nsIn K mainGlobals "NotWhole" = some (some (.ref c_NotWhole)))
    (n_TooMany : PySem.W.nsIn K mainGlobals "TooMany" = some (some (.ref c_TooMany)))
    (n_WoodError : PySem.W.nsIn K mainGlobals "WoodError" = some (some (.ref c_WoodError)))
    (b_NoDealing : PySem.W.subIn K (.ref c_NoDealing) (.type "BaseException") = some true)
    (u_WoodError : PySem.W.subIn K (.ref c_WoodError) (.type "BaseException") = some true)
    (v_WoodError : PySem.W.isClsIn K c_WoodError = true)
    (w_WoodError : PySem.W.typeIn K (.ref c_WoodError) = some (.type "type"))
    (y_NoDealing_WoodError : PySem.W.subIn K (.ref c_NoDealing) (.ref c_WoodError) = some true)
    (i_NoDealing_Clash_NoBack_NoGap_NoHouse_NoMore_NoPiece_NoRow_NoRun_NoShifts_NoText : PySem.W.kitAny K (.ref c_NoDealing) [.ref c_Clash, .ref c_NoBack, .ref c_NoGap, .ref c_NoHouse, .ref c_NoMore, .ref c_NoPiece, .ref c_NoRow, .ref c_NoRun, .ref c_NoShifts, .ref c_NoText] = some false)
    (i_NoDealing_NoDealing : PySem.W.kitOne K (.ref c_NoDealing) (.ref c_NoDealing) = some true)
    (i_NoDealing_NoPlace : PySem.W.kitOne K (.ref c_NoDealing) (.ref c_NoPlace) = some false)
    (i_NoDealing_NoWood_NotOne_NotRight_NotWhole_TooMany : PySem.W.kitAny K (.ref c_NoDealing) [.ref c_NoWood, .ref c_NotOne, .ref c_NotRight, .ref c_NotWhole, .ref c_TooMany] = some false)
    (i_NoDealing_ValueError : PySem.W.kitOne K (.ref c_NoDealing) (.type "ValueError") = some true)
    (k_NoDealing : PySem.W.keepIn K (.ref c_NoDealing) = true)
    (t_NoDealing : PySem.W.typeIn K (.ref c_NoDealing) = some (.type "type"))
    (x_NoDealing : PySem.W.excIn K c_NoDealing [.type "ValueError", .type "Exception", .type "BaseException", .type "object"] "ValueError.__new__" = true)
    (xa_NoDealing : PySem.W.isClsIn K c_NoDealing = true)
    (xb_NoDealing : PySem.W.findIn K (.ref c_NoDealing) "__getattribute__" = some (some (.builtin "BaseException.__getattribute__")))
    (xd_NoDealing : PySem.W.findIn K (.ref c_NoDealing) "__getattr__" = some gt_NoDealing)
    (xe_NoDealing : PySem.W.subIn K (.ref c_NoDealing) (.type "BaseException") = some true)
    (xf_NoDealing : PySem.W.findIn K (.ref c_NoDealing) "__class__" = some (some (.builtin "object.__class__")))
    (xg_NoDealing : PySem.W.mroIn K c_NoDealing (.type "object") = some true)
    (xsp : PySem.W.specialIn K (.builtin "object.__class__") "__get__" = some (some (.builtin "getset_descriptor.__get__")))
    (xtk : PySem.W.takesIn K (.builtin "object.__class__") = some true)
    : ∃ (K : PySem.W.Frag) (fd : FuncData) (F : Fs), K.In h ∧ (∀ (s : Shared) (u : Value), BindsTo s fd ⟨[u], []⟩ [("script", u)]) ∧ LawSays 63 F ∧ ∀ base : Heap, K.In base → base.Ns mainGlobals mg → FnG lw.prog w K mg base 4 fa fd ["script"] F := by
  have e := hfa.symm.trans (PySem.W.mg_of X G a_law)
  cases e
  refine ⟨K, PySem.W.fnOf "law" "law" (defArgs s_law) (defBody s_law) (defScope s_law) .none kV_law dc_law pm_law an_law cd_law ct_law, F_law, X, fun s v => .of_eq rfl, says, fun base hK hG => ?_⟩
  have g_Clash := PySem.W.mg_of X G n_Clash
  have g_NoBack := PySem.W.mg_of X G n_NoBack
  have g_NoDealing := PySem.W.mg_of X G n_NoDealing
  have g_NoGap := PySem.W.mg_of X G n_NoGap
  have g_NoHouse := PySem.W.mg_of X G n_NoHouse
  have g_NoMore := PySem.W.mg_of X G n_NoMore
  have g_NoPiece := PySem.W.mg_of X G n_NoPiece
  have g_NoPlace := PySem.W.mg_of X G n_NoPlace
  have g_NoRow := PySem.W.mg_of X G n_NoRow
  have g_NoRun := PySem.W.mg_of X G n_NoRun
  have g_NoShifts := PySem.W.mg_of X G n_NoShifts
  have g_NoText := PySem.W.mg_of X G n_NoText
  have g_NoWood := PySem.W.mg_of X G n_NoWood
  have g_NotOne := PySem.W.mg_of X G n_NotOne
  have g_NotRight := PySem.W.mg_of X G n_NotRight
  have g_NotWhole := PySem.W.mg_of X G n_NotWhole
  have g_TooMany := PySem.W.mg_of X G n_TooMany
  have g_WoodError := PySem.W.mg_of X G n_WoodError
  have e_NoDealing_WoodError := exm_mk u_WoodError v_WoodError w_WoodError y_NoDealing_WoodError
  have xc_NoDealing : XCls K c_NoDealing := ⟨xa_NoDealing, xb_NoDealing, ⟨_, xd_NoDealing⟩, xe_NoDealing, xf_NoDealing, xsp, xtk, xg_NoDealing⟩
  have D_least_over := ok_least_over (P := lw.prog) (w := w) (base := base) (PySem.W.mg_none_of X G z_max) l_least_over c_least_over k_least_over (PySem.W.mg_of X G a_least_over) a_least_over
  have D_meant := ok_meant (P := lw.prog) (w := w) (base := base) b_NoDealing g_NoDealing k_NoDealing n_NoDealing t_NoDealing x_NoDealing l_meant c_meant k_meant (PySem.W.mg_of X G a_meant) a_meant
  have D_about := ok_about (P := lw.prog) (w := w) (base := base) l_about c_about k_about (PySem.W.mg_of X G a_about) a_about
  have D_over_bounds := ok_over_bounds (P := lw.prog) (w := w) (base := base) D_least_over D_meant D_about (PySem.W.mg_none_of X G z_len) l_over_bounds c_over_bounds k_over_bounds (PySem.W.mg_of X G a_over_bounds) a_over_bounds
  have D_law_e_pen := ok_law_e_pen (P := lw.prog) (w := w) (base := base) (PySem.W.mg_none_of X G z_list) l_law_e_pen c_law_e_pen k_law_e_pen (PySem.W.mg_of X G a_law_e_pen) a_law_e_pen
  have D_law_e_fresh := ok_law_e_fresh (P := lw.prog) (w := w) (base := base) (PySem.W.mg_none_of X G z_len) l_law_e_fresh c_law_e_fresh k_law_e_fresh (PySem.W.mg_of X G a_law_e_fresh) a_law_e_fresh
  have D_law_e_take := ok_law_e_take (P := lw.prog) (w := w) (base := base) D_law_e_fresh l_law_e_take c_law_e_take k_law_e_take (PySem.W.mg_of X G a_law_e_take) a_law_e_take
  have D_law_e_case := ok_law_e_case (P := lw.prog) (w := w) (base := base) D_law_e_take (PySem.W.mg_none_of X G z_range) l_law_e_case c_law_e_case k_law_e_case (PySem.W.mg_of X G a_law_e_case) a_law_e_case
  have D_law_e_dealings := ok_law_e_dealings (P := lw.prog) (w := w) (base := base) (PySem.W.mg_none_of X G z_range) (PySem.W.mg_none_of X G z_sum) l_law_e_dealings c_law_e_dealings k_law_e_dealings (PySem.W.mg_of X G a_law_e_dealings) a_law_e_dealings
  have D_law_e_numbers := ok_law_e_numbers (P := lw.prog) (w := w) (base := base) D_law_e_take (PySem.W.mg_none_of X G z_list) (PySem.W.mg_none_of X G z_range) l_law_e_numbers c_law_e_numbers k_law_e_numbers (PySem.W.mg_of X G a_law_e_numbers) a_law_e_numbers
  have D_law_e_said := ok_law_e_said (P := lw.prog) (w := w) (base := base) D_over_bounds (PySem.W.mg_none_of X G z_ValueError) (PySem.W.mg_none_of X G z_isinstance) (PySem.W.mg_none_of X G z_len) e_NoDealing_WoodError g_Clash g_NoBack g_NoDealing g_NoGap g_NoHouse g_NoMore g_NoPiece g_NoPlace g_NoRow g_NoRun g_NoShifts g_NoText g_NoWood g_NotOne g_NotRight g_NotWhole g_TooMany g_WoodError i_NoDealing_Clash_NoBack_NoGap_NoHouse_NoMore_NoPiece_NoRow_NoRun_NoShifts_NoText i_NoDealing_NoDealing i_NoDealing_NoPlace i_NoDealing_NoWood_NotOne_NotRight_NotWhole_TooMany i_NoDealing_ValueError n_Clash n_NoBack n_NoDealing n_NoGap n_NoHouse n_NoMore n_NoPiece n_NoPlace n_NoRow n_NoRun n_NoShifts n_NoText n_NoWood n_NotOne n_NotRight n_NotWhole n_TooMany n_WoodError xc_NoDealing l_law_e_said c_law_e_said k_law_e_said (PySem.W.mg_of X G a_law_e_said) a_law_e_said
  have D_law_e_over := ok_law_e_over (P := lw.prog) (w := w) (base := base) (PySem.W.mg_none_of X G z_len) l_law_e_over c_law_e_over k_law_e_over (PySem.W.mg_of X G a_law_e_over) a_law_e_over
  exact fn_law D_law_e_pen D_law_e_case D_law_e_dealings D_law_e_numbers D_law_e_over D_law_e_said D_over_bounds (PySem.W.mg_none_of X G z_list) (PySem.W.mg_none_of X G z_max) (PySem.W.mg_none_of X G z_min) (PySem.W.mg_none_of X G z_range) (PySem.W.mg_none_of X G z_repr) l_law c_law
end k62
open PySem PySem.W PyProof.Rows in
set_option maxRecDepth 100000 in
set_option maxHeartbeats 0 in
theorem PySem.Challenge.cw_latewood_k62_bounds_of_how_many_holds : PySem.Challenge.rw_latewood_k62_bounds_of_how_many.Holds := by
  w_on; o_law; k_head; (case hw => w_witness2)
  k_fill
  refine VS.walk_ofG (l := PySem.Challenge.rw_latewood_k62_bounds_of_how_many) (n := 63) (k := 4) (x := "script") rfl (by decide) rfl ⟨rfl, by decide, by decide⟩ ?F
  case F =>
    intro w mg fa h Y G hmg
    refine' k62.all_mk (PySem.W.kIn_of Y) G hmg k62.says ?a_least_over ?l_least_over ?c_least_over ?k_least_over ?a_meant ?l_meant ?c_meant ?k_meant ?a_about ?l_about ?c_about ?k_about ?a_over_bounds ?l_over_bounds ?c_over_bounds ?k_over_bounds ?a_law_e_pen ?l_law_e_pen ?c_law_e_pen ?k_law_e_pen ?a_law_e_fresh ?l_law_e_fresh ?c_law_e_fresh ?k_law_e_fresh ?a_law_e_take ?l_law_e_take ?c_law_e_take ?k_law_e_take ?a_law_e_case ?l_law_e_case ?c_law_e_case ?k_law_e_case ?a_law_e_dealings ?l_law_e_dealings ?c_law_e_dealings ?k_law_e_dealings ?a_law_e_numbers ?l_law_e_numbers ?c_law_e_numbers ?k_law_e_numbers ?a_law_e_said ?l_law_e_said ?c_law_e_said ?k_law_e_said ?a_law_e_over ?l_law_e_over ?c_law_e_over ?k_law_e_over ?a_law ?l_law ?c_law ?k_law ?z_ValueError ?z_isinstance ?z_len ?z_list ?z_max ?z_min ?z_range ?z_repr ?z_sum ?n_Clash ?n_NoBack ?n_NoDealing ?n_NoGap ?n_NoHouse ?n_NoMore ?n_NoPiece ?n_NoPlace ?n_NoRow ?n_NoRun ?n_NoShifts ?n_NoText ?n_NoWood ?n_NotOne ?n_NotRight ?n_NotWhole ?n_TooMany ?n_WoodError ?b_NoDealing ?u_WoodError ?v_WoodError ?w_WoodError ?y_NoDealing_WoodError ?i_NoDealing_Clash_NoBack_NoGap_NoHouse_NoMore_NoPiece_NoRow_NoRun_NoShifts_NoText ?i_NoDealing_NoDealing ?i_NoDealing_NoPlace ?i_NoDealing_NoWood_NotOne_NotRight_NotWhole_TooMany ?i_NoDealing_ValueError ?k_NoDealing ?t_NoDealing ?x_NoDealing ?xa_NoDealing ?xb_NoDealing ?xd_NoDealing ?xe_NoDealing ?xf_NoDealing ?xg_NoDealing ?xsp ?xtk
    (case a_least_over => k_is)
    (case l_least_over => k_is)
    (case c_least_over => k_is)
    (case k_least_over => k_is)
    (case a_meant => k_is)
    (case l_meant => k_is)
    (case c_meant => k_is)
    (case k_meant => k_is)
    (case a_about => k_is)
    (case l_about => k_is)
    (case c_about => k_is)
    (case k_about => k_is)
    (case a_over_bounds => k_is)
    (case l_over_bounds => k_is)
    (case c_over_bounds => k_is)
    (case k_over_bounds => k_is)
    (case a_law_e_pen => k_is)
    (case l_law_e_pen => k_is)
    (case c_law_e_pen => k_is)
    (case k_law_e_pen => k_is)
    (case a_law_e_fresh => k_is)
    (case l_law_e_fresh => k_is)
    (case c_law_e_fresh => k_is)
    (case k_law_e_fresh => k_is)
    (case a_law_e_take => k_is)
    (case l_law_e_take => k_is)
    (case c_law_e_take => k_is)
    (case k_law_e_take => k_is)
    (case a_law_e_case => k_is)
    (case l_law_e_case => k_is)
    (case c_law_e_case => k_is)
    (case k_law_e_case => k_is)
    (case a_law_e_dealings => k_is)
    (case l_law_e_dealings => k_is)
    (case c_law_e_dealings => k_is)
    (case k_law_e_dealings => k_is)
    (case a_law_e_numbers => k_is)
    (case l_law_e_numbers => k_is)
    (case c_law_e_numbers => k_is)
    (case k_law_e_numbers => k_is)
    (case a_law_e_said => k_is)
    (case l_law_e_said => k_is)
    (case c_law_e_said => k_is)
    (case k_law_e_said => k_is)
    (case a_law_e_over => k_is)
    (case l_law_e_over => k_is)
    (case c_law_e_over => k_is)
    (case k_law_e_over => k_is)
    (case a_law => k_is)
    (case l_law => k_is)
    (case c_law => k_is)
    (case k_law => k_is)
    (case z_ValueError => k_is)
    (case z_isinstance => k_is)
    (case z_len => k_is)
    (case z_list => k_is)
    (case z_max => k_is)
    (case z_min => k_is)
    (case z_range => k_is)
    (case z_repr => k_is)
    (case z_sum => k_is)
    (case n_Clash => k_is)
    (case n_NoBack => k_is)
    (case n_NoDealing => k_is)
    (case n_NoGap => k_is)
    (case n_NoHouse => k_is)
    (case n_NoMore => k_is)
    (case n_NoPiece => k_is)
    (case n_NoPlace => k_is)
    (case n_NoRow => k_is)
    (case n_NoRun => k_is)
    (case n_NoShifts => k_is)
    (case n_NoText => k_is)
    (case n_NoWood => k_is)
    (case n_NotOne => k_is)
    (case n_NotRight => k_is)
    (case n_NotWhole => k_is)
    (case n_TooMany => k_is)
    (case n_WoodError => k_is)
    (case b_NoDealing => k_is)
    (case u_WoodError => k_is)
    (case v_WoodError => k_is)
    (case w_WoodError => k_is)
    (case y_NoDealing_WoodError => k_is)
    (case i_NoDealing_Clash_NoBack_NoGap_NoHouse_NoMore_NoPiece_NoRow_NoRun_NoShifts_NoText => first | k_is | kit_is)
    (case i_NoDealing_NoDealing => first | k_is | kit_is)
    (case i_NoDealing_NoPlace => first | k_is | kit_is)
    (case i_NoDealing_NoWood_NotOne_NotRight_NotWhole_TooMany => first | k_is | kit_is)
    (case i_NoDealing_ValueError => first | k_is | kit_is)
    (case k_NoDealing => k_is)
    (case t_NoDealing => k_is)
    (case x_NoDealing => k_exc)
    (case xa_NoDealing => k_is)
    (case xb_NoDealing => k_is)
    (case xd_NoDealing => k_is)
    (case xe_NoDealing => k_is)
    (case xf_NoDealing => k_is)
    (case xg_NoDealing => k_is)
    (case xsp => k_is)
    (case xtk => k_is)
