import PyProof.Rows.All
import HandS.ForMost
import HandS.TupAny
import HandS.TupLe
import HandS.TupMul
import HandS.Wide
import HandS.Deep
import HandS.IsInst
import HandS.SortInts
import HandS.Style
import HandS.TupLen
import HandS.WordsDict
import HandS.ForExc
import HandS.WordsExc
import HandS.Rev
import HandS.NoneIn
import HandS.More
import HandS.Zip
import PyProof.Draws
import HandS.SetFor
import HandS.Conv
import HandS.Defaults
import HandS.HeadHook2
import HandS.HeadEnd
import PyProof.Rows.Range3
import KE.KStateDown
import PyProof.AutoSeq1
import HandS.RevTup
import PyProof.ListNew
import HandS.Text
import HandS.Strs
import PyProof.FitsInt
import PyProof.StrLawsRepr
import PyProof.P3Eq
import PyProof.StrBlockL
import PyProof.StrLawsJoin
import HandS.Head2
import PySem.Challenge.RW_eachsaysonce_k18_whole_uppers
set_option Elab.async false
set_option linter.all false
set_option maxRecDepth 100000
set_option maxHeartbeats 1000000
namespace Z
open PySem PySem.Spec PyProof.Rows L2

abbrev D := PyData
/-- what a slot or a temporary holds, as the text tells it -/
inductive Md where
  | dead | frz | lst (m : Md) | dK | dT | tape | scr
  deriving DecidableEq, Repr

/-- the tape of draws: how it lies in the heap; it leans on its own addresses alone -/
structure TapeP where
  rep : Hp → Addr → D → List Addr → Prop
  own : ∀ H a d S, rep H a d S → ∀ b ∈ S, ∃ o, H b = some o ∧ Mut (some o)
  frame : ∀ H H' a d S, rep H a d S → (∀ b ∈ S, H' b = H b) → rep H' a d S
structure Par where
  K : PySem.W.Frag
  tp : TapeP

def kD : Key → D
  | .inl i => .int i
  | .inr x => .str x

mutual
/-- frozen data: F the addresses of lists and dicts that never change again -/
inductive RF (P : Par) (H : Hp) (F : Addr → Prop) : V → D → Prop
  | non : RF P H F .non .none
  | bl (b : Bool) : RF P H F (.bl b) (.bool b)
  | int (i : Int) : RF P H F (.int i) (.int i)
  | str (x : Str) : RF P H F (.str x) (.str x)
  | tup {a : Addr} {vs : List V} {ds : List D} : SqT P.K H a vs → RFs P H F vs ds → RF P H F (.ref a) (.tuple ds)
  | lst {a : Addr} {vs : List V} {ds : List D} : F a → H a = some (.lst vs) → RFs P H F vs ds → RF P H F (.ref a) (.list ds)
  | dK {a : Addr} {kvs : List (Key × V)} {ds : List (D × D)} : F a → H a = some (.dK kvs) → RFk P H F kvs ds → RF P H F (.ref a) (.dict ds)
  | dT {a : Addr} {kvs : List (List Key × V)} {ds : List (D × D)} : F a → H a = some (.dT kvs) → RFt P H F kvs ds → RF P H F (.ref a) (.dict ds)
inductive RFs (P : Par) (H : Hp) (F : Addr → Prop) : List V → List D → Prop
  | nil : RFs P H F [] []
  | cons {v : V} {vs : List V} {d : D} {ds : List D} : RF P H F v d → RFs P H F vs ds → RFs P H F (v :: vs) (d :: ds)
inductive RFk (P : Par) (H : Hp) (F : Addr → Prop) : List (Key × V) → List (D × D) → Prop
  | nil : RFk P H F [] []
  | cons {k : Key} {v : V} {vs : List (Key × V)} {d : D} {ds : List (D × D)} : RF P H F v d → RFk P H F vs ds → RFk P H F ((k, v) :: vs) ((kD k, d) :: ds)
inductive RFt (P : Par) (H : Hp) (F : Addr → Prop) : List (List Key × V) → List (D × D) → Prop
  | nil : RFt P H F [] []
  | cons {k : List Key} {v : V} {vs : List (List Key × V)} {d : D} {ds : List (D × D)} : RF P H F v d → RFt P H F vs ds → RFt P H F ((k, v) :: vs) ((.tuple (k.map kD), d) :: ds)
end

/-- what may be told of a heap by frozen data stays -/
def Stay (F : Addr → Prop) (H H' : Hp) : Prop := ∀ a o, H a = some o → (F a ∨ ¬ Mut (some o)) → H' a = some o
theorem Stay.refl {F : Addr → Prop} {H : Hp} : Stay F H H := fun _ _ h _ => h
theorem Stay.same {F : Addr → Prop} {H H' : Hp} (h : Same H H') : Stay F H H' := fun a o e _ => h a o e
theorem Stay.alloc {F : Addr → Prop} {H : Hp} {p : Addr} {o : HO} (hp : H p = none) : Stay F H (upd H p o) := fun a u e _ => by
  rw [upd_ne (fun z => by subst z; rw [hp] at e; cases e)]; exact e
theorem Stay.write {F : Addr → Prop} {H : Hp} {p : Addr} {o u : HO} (hp : H p = some u) (mu : Mut (some u)) (nf : ¬ F p) : Stay F H (upd H p o) := fun a w e c => by
  by_cases z : a = p
  · subst z
    rw [hp] at e; cases e
    rcases c with c | c
    · exact absurd c nf
    · exact absurd mu c
  · rw [upd_ne z]; exact e
theorem Same.alloc {H : Hp} {p : Addr} {o : HO} (hp : H p = none) : Same H (upd H p o) := fun a u e => by
  rw [upd_ne (fun z => by subst z; rw [hp] at e; cases e)]; exact e

theorem sqT_stay {K : PySem.W.Frag} {F : Addr → Prop} {H H' : Hp} {a : Addr} {xs : List V} (st : Stay F H H') (h : SqT K H a xs) : SqT K H' a xs := by
  rcases h with (h | ⟨o, h⟩) | h
  · exact .inl (.inl (st _ _ h (.inr (by intro z; exact z))))
  · exact .inl (.inr ⟨o, st _ _ h (.inr (by intro z; exact z))⟩)
  · exact .inr h

section
variable {P : Par} {H H' : Hp} {F F' : Addr → Prop}
mutual
theorem RF.stay (st : Stay F H H') (hF : ∀ a, F a → F' a) : ∀ {v : V} {d : D}, RF P H F v d → RF P H' F' v d
  | _, _, .non => .non
  | _, _, .bl b => .bl b
  | _, _, .int i => .int i
  | _, _, .str x => .str x
  | _, _, .tup s r => .tup (sqT_stay st s) (RFs.stay st hF r)
  | _, _, .lst f e r => .lst (hF _ f) (st _ _ e (.inl f)) (RFs.stay st hF r)
  | _, _, .dK f e r => .dK (hF _ f) (st _ _ e (.inl f)) (RFk.stay st hF r)
  | _, _, .dT f e r => .dT (hF _ f) (st _ _ e (.inl f)) (RFt.stay st hF r)
theorem RFs.stay (st : Stay F H H') (hF : ∀ a, F a → F' a) : ∀ {v : List V} {d : List D}, RFs P H F v d → RFs P H' F' v d
  | _, _, .nil => .nil
  | _, _, .cons a r => .cons (RF.stay st hF a) (RFs.stay st hF r)
theorem RFk.stay (st : Stay F H H') (hF : ∀ a, F a → F' a) : ∀ {v : List (Key × V)} {d : List (D × D)}, RFk P H F v d → RFk P H' F' v d
  | _, _, .nil => .nil
  | _, _, .cons a r => .cons (RF.stay st hF a) (RFk.stay st hF r)
theorem RFt.stay (st : Stay F H H') (hF : ∀ a, F a → F' a) : ∀ {v : List (List Key × V)} {d : List (D × D)}, RFt P H F v d → RFt P H' F' v d
  | _, _, .nil => .nil
  | _, _, .cons a r => .cons (RF.stay st hF a) (RFt.stay st hF r)
end
theorem RFs.length : ∀ {vs : List V} {ds : List D}, RFs P H F vs ds → vs.length = ds.length
  | _, _, .nil => rfl
  | _, _, .cons _ r => by simp [RFs.length r]
theorem RFs.append : ∀ {vs ws : List V} {ds es : List D}, RFs P H F vs ds → RFs P H F ws es → RFs P H F (vs ++ ws) (ds ++ es)
  | _, _, _, _, .nil, s => s
  | _, _, _, _, .cons a r, s => .cons a (RFs.append r s)
theorem RFs.get : ∀ {vs : List V} {ds : List D} {i : Nat} {d : D}, RFs P H F vs ds → ds[i]? = some d → ∃ v, vs[i]? = some v ∧ RF P H F v d
  | _, _, _, _, .nil, e => by simp at e
  | _, _, 0, _, .cons a _, e => by simp at e; subst e; exact ⟨_, rfl, a⟩
  | _, _, i + 1, _, .cons _ r, e => by
    obtain ⟨v, h1, h2⟩ := RFs.get (i := i) r (by simpa using e)
    exact ⟨v, by simpa using h1, h2⟩
theorem RFs.get' : ∀ {vs : List V} {ds : List D} {i : Nat} {v : V}, RFs P H F vs ds → vs[i]? = some v → ∃ d, ds[i]? = some d ∧ RF P H F v d
  | _, _, _, _, .nil, e => by simp at e
  | _, _, 0, _, .cons a _, e => by simp at e; subst e; exact ⟨_, rfl, a⟩
  | _, _, i + 1, _, .cons _ r, e => by
    obtain ⟨v, h1, h2⟩ := RFs.get' (i := i) r (by simpa using e)
    exact ⟨v, by simpa using h1, h2⟩
theorem RFs.take : ∀ {vs : List V} {ds : List D} (n : Nat), RFs P H F vs ds → RFs P H F (vs.take n) (ds.take n)
  | _, _, 0, _ => by simpa using RFs.nil
  | _, _, _ + 1, .nil => .nil
  | _, _, n + 1, .cons a r => .cons a (RFs.take n r)
theorem RFs.drop : ∀ {vs : List V} {ds : List D} (n : Nat), RFs P H F vs ds → RFs P H F (vs.drop n) (ds.drop n)
  | _, _, 0, r => by simpa using r
  | _, _, _ + 1, .nil => .nil
  | _, _, n + 1, .cons _ r => RFs.drop n r
theorem RFs.set {v : V} {d : D} (r : RF P H F v d) : ∀ {vs : List V} {ds : List D} (i : Nat), RFs P H F vs ds → RFs P H F (vs.set i v) (ds.set i d)
  | _, _, _, .nil => .nil
  | _, _, 0, .cons _ t => .cons r t
  | _, _, i + 1, .cons q t => .cons q (RFs.set r i t)
theorem RFs.reverse : ∀ {vs : List V} {ds : List D}, RFs P H F vs ds → RFs P H F vs.reverse ds.reverse
  | _, _, .nil => .nil
  | _, _, .cons a r => by simpa using (RFs.reverse r).append (.cons a .nil)
theorem RFs.replicate {vs : List V} {ds : List D} (r : RFs P H F vs ds) : ∀ n, RFs P H F (List.replicate n vs).flatten (List.replicate n ds).flatten
  | 0 => .nil
  | n + 1 => by simpa [List.replicate_succ] using r.append (RFs.replicate r n)
theorem RFs.ints : ∀ {ns : List Int} {vs : List V}, RFs P H F vs (ns.map PyData.int) → vs = ns.map V.int
  | [], _, h => by cases h; rfl
  | n :: ns, _, h => by
    cases h with
    | cons a r => cases a; rw [RFs.ints r]; rfl
theorem RFs.of_ints : ∀ (ns : List Int), RFs P H F (ns.map V.int) (ns.map PyData.int)
  | [] => .nil
  | n :: ns => .cons (.int n) (RFs.of_ints ns)
end

/-! ### modes -/
mutual
inductive RM (P : Par) (H : Hp) (F : Addr → Prop) : Md → V → D → List Addr → Prop
  | frz {v : V} {d : D} : RF P H F v d → RM P H F .frz v d []
  | lst {m : Md} {a : Addr} {vs : List V} {ds : List D} {S : List Addr} : H a = some (.lst vs) → RMs P H F m vs ds S → RM P H F (.lst m) (.ref a) (.list ds) (a :: S)
  | dK {a : Addr} {kvs : List (Key × V)} {ds : List (D × D)} : H a = some (.dK kvs) → RFk P H F kvs ds → RM P H F .dK (.ref a) (.dict ds) [a]
  | dT {a : Addr} {kvs : List (List Key × V)} {ds : List (D × D)} : H a = some (.dT kvs) → RFt P H F kvs ds → RM P H F .dT (.ref a) (.dict ds) [a]
  | tape {a : Addr} {d : D} {S : List Addr} : P.tp.rep H a d S → RM P H F .tape (.ref a) d S
  | scr {a : Addr} {ns : List Int} : ((∃ o, H a = some (.frz o (.lst (ns.map V.int)))) ∨ ∀ H', SqL P.K H' a (ns.map V.int)) → RM P H F .scr (.ref a) (.list (ns.map PyData.int)) []
inductive RMs (P : Par) (H : Hp) (F : Addr → Prop) : Md → List V → List D → List Addr → Prop
  | nil {m : Md} : RMs P H F m [] [] []
  | cons {m : Md} {v : V} {vs : List V} {d : D} {ds : List D} {S S' : List Addr} : RM P H F m v d S → RMs P H F m vs ds S' → RMs P H F m (v :: vs) (d :: ds) (S ++ S')
end
section
variable {P : Par} {H H' : Hp} {F F' : Addr → Prop}
mutual
theorem RM.stay (st : Stay F H H') (hF : ∀ a, F a → F' a) : ∀ {m : Md} {v : V} {d : D} {S : List Addr}, RM P H F m v d S → (∀ a ∈ S, H' a = H a) → RM P H' F' m v d S
  | _, _, _, _, .frz r, _ => .frz (r.stay st hF)
  | _, _, _, _, .lst e r, k => .lst ((k _ List.mem_cons_self).trans e) (RMs.stay st hF r fun a h => k a (List.mem_cons_of_mem _ h))
  | _, _, _, _, .dK e r, k => .dK ((k _ List.mem_cons_self).trans e) (r.stay st hF)
  | _, _, _, _, .dT e r, k => .dT ((k _ List.mem_cons_self).trans e) (r.stay st hF)
  | _, _, _, _, .tape r, k => .tape (P.tp.frame _ _ _ _ _ r k)
  | _, _, _, _, .scr r, _ => .scr (r.imp (fun q => by
    obtain ⟨o, e⟩ := q
    exact ⟨o, st _ _ e (.inr fun z => z)⟩) id)
theorem RMs.stay (st : Stay F H H') (hF : ∀ a, F a → F' a) : ∀ {m : Md} {v : List V} {d : List D} {S : List Addr}, RMs P H F m v d S → (∀ a ∈ S, H' a = H a) → RMs P H' F' m v d S
  | _, _, _, _, .nil, _ => .nil
  | _, _, _, _, .cons a r, k => .cons (RM.stay st hF a fun b h => k b (List.mem_append_left _ h)) (RMs.stay st hF r fun b h => k b (List.mem_append_right _ h))
end
mutual
theorem RM.own : ∀ {m : Md} {v : V} {d : D} {S : List Addr}, RM P H F m v d S → ∀ b ∈ S, ∃ o, H b = some o ∧ Mut (some o)
  | _, _, _, _, .frz r, b, h => nomatch h
  | _, _, _, _, .lst e r, b, h => by
    rcases List.mem_cons.mp h with rfl | h
    · exact ⟨_, e, trivial⟩
    · exact RMs.own r b h
  | _, _, _, _, .dK e r, b, h => by
    rcases List.mem_cons.mp h with rfl | h
    · exact ⟨_, e, trivial⟩
    · cases h
  | _, _, _, _, .dT e r, b, h => by
    rcases List.mem_cons.mp h with rfl | h
    · exact ⟨_, e, trivial⟩
    · cases h
  | _, _, _, _, .tape r, b, h => P.tp.own _ _ _ _ r b h
  | _, _, _, _, .scr r, b, h => nomatch h
theorem RMs.own : ∀ {m : Md} {v : List V} {d : List D} {S : List Addr}, RMs P H F m v d S → ∀ b ∈ S, ∃ o, H b = some o ∧ Mut (some o)
  | _, _, _, _, .nil, b, h => nomatch h
  | _, _, _, _, .cons a r, b, h => by
    rcases List.mem_append.mp h with h | h
    · exact RM.own a b h
    · exact RMs.own r b h
end
theorem RMs.frz : ∀ {vs : List V} {ds : List D}, RFs P H F vs ds → RMs P H F .frz vs ds []
  | _, _, .nil => .nil
  | _, _, .cons a r => by simpa using RMs.cons (.frz a) (RMs.frz r)
theorem RMs.of_frz : ∀ {vs : List V} {ds : List D} {S : List Addr}, RMs P H F .frz vs ds S → RFs P H F vs ds ∧ S = []
  | _, _, _, .nil => ⟨.nil, rfl⟩
  | _, _, _, .cons (.frz a) r => by
    obtain ⟨h, e⟩ := RMs.of_frz r
    subst e
    exact ⟨.cons a h, rfl⟩
def Md.plain : Md → Bool
  | .tape => false
  | .scr => false
  | .dead => false
  | .lst m => m.plain
  | _ => true
/- all that is owned becomes frozen -/
mutual
theorem RM.freeze (hF : ∀ a, F a → F' a) : ∀ {m : Md} {v : V} {d : D} {S : List Addr}, m.plain = true → RM P H F m v d S → (∀ a ∈ S, F' a) → RF P H F' v d
  | _, _, _, _, _, .frz r, _ => r.stay .refl hF
  | .lst m, _, _, _, h, .lst e r, k => .lst (k _ List.mem_cons_self) e (RMs.freeze (m := m) hF h r fun a q => k a (List.mem_cons_of_mem _ q))
  | _, _, _, _, _, .dK e r, k => .dK (k _ List.mem_cons_self) e (r.stay .refl hF)
  | _, _, _, _, _, .dT e r, k => .dT (k _ List.mem_cons_self) e (r.stay .refl hF)
  | _, _, _, _, h, .tape r, _ => Bool.noConfusion h
  | _, _, _, _, h, .scr r, _ => Bool.noConfusion h
theorem RMs.freeze (hF : ∀ a, F a → F' a) : ∀ {m : Md} {v : List V} {d : List D} {S : List Addr}, m.plain = true → RMs P H F m v d S → (∀ a ∈ S, F' a) → RFs P H F' v d
  | _, _, _, _, _, .nil, _ => .nil
  | _, _, _, _, h, .cons a r, k => .cons (RM.freeze hF h a fun b q => k b (List.mem_append_left _ q)) (RMs.freeze hF h r fun b q => k b (List.mem_append_right _ q))
end
end

/-! ### entries, the world -/
abbrev Ent := Md × D × Option V
inductive RE (P : Par) (H : Hp) (F : Addr → Prop) : Ent → List Addr → Prop
  | dead {d : D} {v : Option V} : RE P H F (.dead, d, v) []
  | held {m : Md} {d : D} {v : V} {S : List Addr} : RM P H F m v d S → RE P H F (m, d, some v) S
inductive REs (P : Par) (H : Hp) (F : Addr → Prop) : List Ent → List Addr → Prop
  | nil : REs P H F [] []
  | cons {e : Ent} {es : List Ent} {S S' : List Addr} : RE P H F e S → REs P H F es S' → REs P H F (e :: es) (S ++ S')
section
variable {P : Par} {H H' : Hp} {F F' : Addr → Prop}
theorem RE.stay (st : Stay F H H') (hF : ∀ a, F a → F' a) {e : Ent} {S : List Addr} (r : RE P H F e S) (k : ∀ a ∈ S, H' a = H a) : RE P H' F' e S := by
  cases r with
  | dead => exact .dead
  | held r => exact .held (r.stay st hF k)
theorem RE.own {e : Ent} {S : List Addr} (r : RE P H F e S) : ∀ b ∈ S, ∃ o, H b = some o ∧ Mut (some o) := by
  cases r with
  | dead => intro b h; cases h
  | held r => exact r.own
theorem REs.stay (st : Stay F H H') (hF : ∀ a, F a → F' a) : ∀ {es : List Ent} {S : List Addr}, REs P H F es S → (∀ a ∈ S, H' a = H a) → REs P H' F' es S
  | _, _, .nil, _ => .nil
  | _, _, .cons a r, k => .cons (a.stay st hF fun b h => k b (List.mem_append_left _ h)) (REs.stay st hF r fun b h => k b (List.mem_append_right _ h))
theorem REs.own : ∀ {es : List Ent} {S : List Addr}, REs P H F es S → ∀ b ∈ S, ∃ o, H b = some o ∧ Mut (some o)
  | _, _, .nil, b, h => nomatch h
  | _, _, .cons a r, b, h => (List.mem_append.mp h).elim (a.own b) (REs.own r b)
theorem REs.append : ∀ {es fs : List Ent} {S S' : List Addr}, REs P H F es S → REs P H F fs S' → REs P H F (es ++ fs) (S ++ S')
  | _, _, _, _, .nil, s => s
  | _, _, _, _, .cons a r, s => by rw [List.append_assoc]; exact .cons a (REs.append r s)
theorem REs.split : ∀ {es fs : List Ent} {S : List Addr}, REs P H F (es ++ fs) S → ∃ S1 S2, S = S1 ++ S2 ∧ REs P H F es S1 ∧ REs P H F fs S2
  | [], _, S, h => ⟨[], S, rfl, .nil, h⟩
  | e :: es, fs, _, .cons a r => by
    obtain ⟨S1, S2, rfl, h1, h2⟩ := REs.split r
    exact ⟨_, S2, (List.append_assoc ..).symm, .cons a h1, h2⟩
theorem REs.perm : ∀ {es fs : List Ent}, es.Perm fs → ∀ {S : List Addr}, REs P H F es S → ∃ S', S.Perm S' ∧ REs P H F fs S' := by
  intro es fs p
  induction p with
  | nil => intro S h; exact ⟨S, .refl _, h⟩
  | cons x _ ih =>
    intro S h
    cases h with
    | cons a r =>
      obtain ⟨S', p', h'⟩ := ih r
      exact ⟨_, p'.append_left _, .cons a h'⟩
  | swap x y l =>
    intro S h
    cases h with
    | cons a r =>
      cases r with
      | cons b r =>
        rename_i S1 S2 S3
        exact ⟨S2 ++ (S1 ++ S3), by rw [← List.append_assoc, ← List.append_assoc]; exact List.perm_append_comm.append_right _, .cons b (.cons a r)⟩
  | trans _ _ ih1 ih2 =>
    intro S h
    obtain ⟨S1, p1, h1⟩ := ih1 h
    obtain ⟨S2, p2, h2⟩ := ih2 h1
    exact ⟨S2, p1.trans p2, h2⟩
end

/-- B: what stood at the entry and stays; G: what callers own; F: what is frozen -/
structure World (P : Par) (B : Hp) (G F : Addr → Prop) (es : List Ent) (H : Hp) : Prop where
  ents : ∃ S, REs P H F es S ∧ S.Nodup ∧ ∀ a ∈ S, ¬ F a ∧ ¬ G a ∧ B a = none
  fG : ∀ a, F a → ¬ G a
  fH : ∀ a, F a → ∃ o, H a = some o
  gB : ∀ a, G a → ∃ o, B a = some o
  base : ∀ a o, B a = some o → H a = some o
section
variable {P : Par} {B H H' : Hp} {G F F' : Addr → Prop} {es fs : List Ent}
theorem World.perm (w : World P B G F es H) (p : es.Perm fs) : World P B G F fs H := by
  obtain ⟨S, h, nd, k⟩ := w.ents
  obtain ⟨S', ps, h'⟩ := REs.perm p h
  exact ⟨⟨S', h', ps.nodup_iff.mp nd, fun a ha => k a (ps.mem_iff.mpr ha)⟩, w.fG, w.fH, w.gB, w.base⟩
theorem World.drop1 {e : Ent} (w : World P B G F (e :: es) H) : World P B G F es H := by
  obtain ⟨S, h, nd, k⟩ := w.ents
  cases h with
  | cons a r => exact ⟨⟨_, r, (List.nodup_append.mp nd).2.1, fun a ha => k a (List.mem_append_right _ ha)⟩, w.fG, w.fH, w.gB, w.base⟩
theorem World.drop : ∀ {ts : List Ent}, World P B G F (ts ++ es) H → World P B G F es H
  | [], w => w
  | _ :: _, w => World.drop w.drop1
/-- the second entry is dropped -/
theorem World.drop2 {e f : Ent} (w : World P B G F (e :: f :: es) H) : World P B G F (e :: es) H := (w.perm (.swap f e es)).drop1
theorem World.drop3 {e f g : Ent} (w : World P B G F (e :: f :: g :: es) H) : World P B G F (e :: es) H := w.drop2.drop2
theorem World.dropN {e : Ent} : ∀ {ts : List Ent}, World P B G F (e :: (ts ++ es)) H → World P B G F (e :: es) H
  | [], w => w
  | _ :: _, w => World.dropN w.drop2
theorem World.mem {m : Md} {d : D} {v : Option V} (w : World P B G F es H) (hm : (m, d, v) ∈ es) (h : m ≠ .dead) : ∃ v', v = some v' ∧ ∃ S, RM P H F m v' d S ∧ ∀ a ∈ S, ¬ F a := by
  obtain ⟨l1, l2, rfl⟩ := List.append_of_mem hm
  obtain ⟨S, hs, _, k⟩ := w.ents
  obtain ⟨S1, S2, rfl, _, h2⟩ := hs.split
  cases h2 with
  | cons a r =>
    cases a with
    | dead => exact absurd rfl h
    | held r' => exact ⟨_, rfl, _, r', fun a ha => (k a (List.mem_append_right _ (List.mem_append_left _ ha))).1⟩
/-- a scalar or any frozen data on top -/
theorem World.push {v : V} {d : D} (w : World P B G F es H) (r : RF P H F v d) : World P B G F ((.frz, d, some v) :: es) H := by
  obtain ⟨S, h, nd, k⟩ := w.ents
  exact ⟨⟨[] ++ S, .cons (.held (.frz r)) h, nd, k⟩, w.fG, w.fH, w.gB, w.base⟩
/-- a new object that nobody owns, frozen -/
theorem World.alloc {p : Addr} {o : HO} (w : World P B G F es H) (hp : H p = none) : World P B G (fun a => F a ∨ a = p) es (upd H p o) := by
  obtain ⟨S, h, nd, k⟩ := w.ents
  have hS : ∀ a ∈ S, a ≠ p := fun a ha z => by
    obtain ⟨u, e, _⟩ := h.own a ha
    rw [z, hp] at e; cases e
  have hB : B p = none := by
    cases e : B p with
    | none => rfl
    | some u => have := w.base p u e; rw [hp] at this; cases this
  refine ⟨⟨S, h.stay (Stay.alloc hp) (fun a z => .inl z) (fun a ha => upd_ne (hS a ha)), nd, fun a ha => ⟨fun z => z.elim (k a ha).1 (hS a ha), (k a ha).2⟩⟩, fun a z g => ?_, fun a z => ?_, w.gB, fun a u e => ?_⟩
  · rcases z with z | rfl
    · exact w.fG a z g
    · obtain ⟨u, e⟩ := w.gB a g
      rw [hB] at e; cases e
  · by_cases q : a = p
    · subst q; exact ⟨_, upd_same⟩
    · rw [upd_ne q]
      exact w.fH a (z.resolve_right q)
  · rw [upd_ne (fun z => by subst z; rw [hB] at e; cases e)]; exact w.base a u e
/-- the frozen addresses may be fewer -/
theorem World.heap_alloc {p : Addr} {o : HO} (w : World P B G F es H) (hp : H p = none) : World P B G F es (upd H p o) := by
  obtain ⟨S, h, nd, k⟩ := w.ents
  have hS : ∀ a ∈ S, a ≠ p := fun a ha z => by
    obtain ⟨u, e, _⟩ := h.own a ha
    rw [z, hp] at e; cases e
  have hB : B p = none := by
    cases e : B p with
    | none => rfl
    | some u => have := w.base p u e; rw [hp] at this; cases this
  refine ⟨⟨S, h.stay (Stay.alloc hp) (fun a z => z) (fun a ha => upd_ne (hS a ha)), nd, k⟩, w.fG, fun a z => ?_, w.gB, fun a u e => ?_⟩
  · obtain ⟨u, e⟩ := w.fH a z
    exact ⟨u, Same.alloc hp a u e⟩
  · exact Same.alloc hp a u (w.base a u e)
theorem World.rf_frz {d : D} {v : V} (w : World P B G F es H) (hm : (.frz, d, some v) ∈ es) : RF P H F v d := by
  obtain ⟨v', e, S, r, _⟩ := w.mem hm (by decide)
  cases e
  cases r with
  | frz r => exact r
/-- a new tuple of frozen items -/
theorem World.tup {p : Addr} {vs : List V} {ds : List D} (w : World P B G F es H) (hp : H p = none) (r : RFs P H F vs ds) : World P B G F ((.frz, .tuple ds, some (.ref p)) :: es) (upd H p (.tup vs)) :=
  (w.heap_alloc hp).push (.tup (.inl (.inl upd_same)) (r.stay (Stay.alloc hp) fun _ z => z))
theorem RMs.length : ∀ {m : Md} {vs : List V} {ds : List D} {S : List Addr}, RMs P H F m vs ds S → vs.length = ds.length
  | _, _, _, _, .nil => rfl
  | _, _, _, _, .cons _ r => by simp [RMs.length r]
theorem RMs.append : ∀ {m : Md} {vs ws : List V} {ds es : List D} {S S' : List Addr}, RMs P H F m vs ds S → RMs P H F m ws es S' → RMs P H F m (vs ++ ws) (ds ++ es) (S ++ S')
  | _, _, _, _, _, _, _, .nil, s => s
  | _, _, _, _, _, _, _, .cons a r, s => by simpa [List.append_assoc] using RMs.cons a (RMs.append r s)
/-- entries of one mode -/
def entsOf (m : Md) : List D → List V → List Ent
  | d :: ds, v :: vs => (m, d, some v) :: entsOf m ds vs
  | _, _ => []
theorem REs.rms {m : Md} (hm : m ≠ .dead) : ∀ {ds : List D} {vs : List V} {S : List Addr}, vs.length = ds.length → REs P H F (entsOf m ds vs) S → RMs P H F m vs ds S
  | [], [], _, _, .nil => .nil
  | d :: ds, v :: vs, _, e, .cons a r => by
    cases a with
    | dead => exact absurd rfl hm
    | held a => exact .cons a (REs.rms hm (by simpa using e) r)
/-- a new list over items that were owned by as many entries -/
theorem World.lst {p : Addr} {m : Md} {vs : List V} {ds : List D} (w : World P B G F (entsOf m ds vs ++ es) H) (hm : m ≠ .dead) (hl : vs.length = ds.length) (hp : H p = none) :
    World P B G F ((.lst m, .list ds, some (.ref p)) :: es) (upd H p (.lst vs)) := by
  have w' := w.heap_alloc (o := .lst vs) hp
  obtain ⟨S, h, nd, k⟩ := w.ents
  have hS : ∀ a ∈ S, a ≠ p := fun a ha z => by
    obtain ⟨u, e, _⟩ := h.own a ha
    rw [z, hp] at e; cases e
  have hB : B p = none := by
    cases e : B p with
    | none => rfl
    | some u => have := w.base p u e; rw [hp] at this; cases this
  have h' := h.stay (Stay.alloc (o := .lst vs) hp) (fun a z => z) (fun a ha => upd_ne (hS a ha))
  obtain ⟨S1, S2, rfl, h1, h2⟩ := h'.split
  refine ⟨⟨(p :: S1) ++ S2, .cons (.held (.lst upd_same (h1.rms hm hl))) h2, List.nodup_cons.mpr ⟨fun ha => hS p ha rfl, nd⟩, fun a ha => ?_⟩, w'.fG, w'.fH, w'.gB, w'.base⟩
  rcases List.mem_cons.mp ha with rfl | ha
  · refine ⟨fun z => ?_, fun z => ?_, hB⟩
    · obtain ⟨u, e⟩ := w.fH _ z
      rw [hp] at e; cases e
    · obtain ⟨u, e⟩ := w.gB _ z
      rw [hB] at e; cases e
  · exact k a ha
theorem World.pushes (w : World P B G F es H) : ∀ {vs : List V} {ds : List D}, RFs P H F vs ds → World P B G F (entsOf .frz ds vs ++ es) H
  | _, _, .nil => w
  | _, _, .cons a r => (World.pushes w r).push a
theorem World.lst0 {p : Addr} {vs : List V} {ds : List D} (w : World P B G F es H) (r : RFs P H F vs ds) (hp : H p = none) :
    World P B G F ((.lst .frz, .list ds, some (.ref p)) :: es) (upd H p (.lst vs)) :=
  World.lst (World.pushes w r) (by decide) r.length hp
theorem World.dK0 {p : Addr} (w : World P B G F es H) (hp : H p = none) : World P B G F ((.dK, .dict [], some (.ref p)) :: es) (upd H p (.dK [])) := by
  have w' := w.heap_alloc (o := .dK []) hp
  obtain ⟨S, h, nd, k⟩ := w.ents
  have hS : ∀ a ∈ S, a ≠ p := fun a ha z => by
    obtain ⟨u, e, _⟩ := h.own a ha
    rw [z, hp] at e; cases e
  have hB : B p = none := by
    cases e : B p with
    | none => rfl
    | some u => have := w.base p u e; rw [hp] at this; cases this
  have h' := h.stay (Stay.alloc (o := .dK []) hp) (fun a z => z) (fun a ha => upd_ne (hS a ha))
  refine ⟨⟨[p] ++ S, .cons (.held (.dK upd_same .nil)) h', List.nodup_cons.mpr ⟨fun ha => hS p ha rfl, nd⟩, fun a ha => ?_⟩, w'.fG, w'.fH, w'.gB, w'.base⟩
  rcases List.mem_cons.mp ha with rfl | ha
  · refine ⟨fun z => ?_, fun z => ?_, hB⟩
    · obtain ⟨u, e⟩ := w.fH _ z
      rw [hp] at e; cases e
    · obtain ⟨u, e⟩ := w.gB _ z
      rw [hB] at e; cases e
  · exact k a ha
theorem World.dT0 {p : Addr} (w : World P B G F es H) (hp : H p = none) : World P B G F ((.dT, .dict [], some (.ref p)) :: es) (upd H p (.dT [])) := by
  have w' := w.heap_alloc (o := .dT []) hp
  obtain ⟨S, h, nd, k⟩ := w.ents
  have hS : ∀ a ∈ S, a ≠ p := fun a ha z => by
    obtain ⟨u, e, _⟩ := h.own a ha
    rw [z, hp] at e; cases e
  have hB : B p = none := by
    cases e : B p with
    | none => rfl
    | some u => have := w.base p u e; rw [hp] at this; cases this
  have h' := h.stay (Stay.alloc (o := .dT []) hp) (fun a z => z) (fun a ha => upd_ne (hS a ha))
  refine ⟨⟨[p] ++ S, .cons (.held (.dT upd_same .nil)) h', List.nodup_cons.mpr ⟨fun ha => hS p ha rfl, nd⟩, fun a ha => ?_⟩, w'.fG, w'.fH, w'.gB, w'.base⟩
  rcases List.mem_cons.mp ha with rfl | ha
  · refine ⟨fun z => ?_, fun z => ?_, hB⟩
    · obtain ⟨u, e⟩ := w.fH _ z
      rw [hp] at e; cases e
    · obtain ⟨u, e⟩ := w.gB _ z
      rw [hB] at e; cases e
  · exact k a ha
/-- what is owned is frozen -/
theorem World.freeze {m : Md} {d : D} {v : V} (w : World P B G F ((m, d, some v) :: es) H) (hm : m.plain = true) : ∃ F', (∀ a, F a → F' a) ∧ World P B G F' ((.frz, d, some v) :: es) H := by
  obtain ⟨S, h, nd, k⟩ := w.ents
  cases h with
  | cons a r =>
    rename_i S1 S2
    cases a with
    | dead => exact Bool.noConfusion hm
    | held a =>
      have hS := a.own
      refine ⟨fun b => F b ∨ b ∈ S1, fun b z => .inl z, ⟨[] ++ S2, .cons (.held (.frz (a.freeze (fun b z => .inl z) hm fun b z => .inr z))) (r.stay .refl (fun b z => .inl z) fun _ _ => rfl), (List.nodup_append.mp nd).2.1, fun b hb => ?_⟩, fun b z => ?_, fun b z => ?_, w.gB, w.base⟩
      · have q := k b (List.mem_append_right _ hb)
        refine ⟨fun z => z.elim q.1 fun z => (List.nodup_append.mp nd).2.2 b z b hb rfl, q.2⟩
      · rcases z with z | z
        · exact w.fG b z
        · exact (k b (List.mem_append_left _ z)).2.1
      · rcases z with z | z
        · exact w.fH b z
        · obtain ⟨o, e, _⟩ := hS b z
          exact ⟨o, e⟩
/-- the owned list on top is changed: items of entries go in -/
theorem World.relist {m : Md} {a : Addr} {vs vs' : List V} {ds ds' : List D} {d0 : List D} {v0 : List V} (w : World P B G F (entsOf m d0 v0 ++ (.lst m, .list ds, some (.ref a)) :: es) H) (he : H a = some (.lst vs))
    (hr : ∀ S S0, RMs P H F m vs ds S → REs P H F (entsOf m d0 v0) S0 → (S0 ++ S).Nodup → ∃ S', RMs P H F m vs' ds' S' ∧ S'.Nodup ∧ ∀ b ∈ S', b ∈ S0 ++ S) : World P B G F ((.lst m, .list ds', some (.ref a)) :: es) (upd H a (.lst vs')) := by
  obtain ⟨S, h, nd, k⟩ := w.ents
  obtain ⟨S0, S2, rfl, h0, h2⟩ := h.split
  cases h2 with
  | cons x r =>
    rename_i Sa Sr
    cases x with
    | held x =>
      cases x with
      | lst e rs =>
        rename_i vs2 S1
        rw [he] at e; cases e
        obtain ⟨S', q1, q2, q3⟩ := hr _ _ rs h0 (List.nodup_append.mpr ⟨(List.nodup_append.mp nd).1, (List.nodup_cons.mp (List.nodup_append.mp (List.nodup_append.mp nd).2.1).1).2, fun x hx y hy => (List.nodup_append.mp nd).2.2 x hx y (List.mem_append_left _ (List.mem_cons_of_mem _ hy))⟩)
        have ka := k a (List.mem_append_right _ (List.mem_append_left _ List.mem_cons_self))
        have st : Stay F H (upd H a (.lst vs')) := Stay.write he trivial ka.1
        have nd2 := List.nodup_append.mp nd
        have nd3 := List.nodup_append.mp nd2.2.1
        have na0 : a ∉ S0 := fun z => nd2.2.2 a z a (List.mem_append_left _ List.mem_cons_self) rfl
        have na1 : a ∉ S1 := (List.nodup_cons.mp nd3.1).1
        have nar : a ∉ Sr := fun z => nd3.2.2 a List.mem_cons_self a z rfl
        have naS : a ∉ S' := fun z => (List.mem_append.mp (q3 a z)).elim na0 na1
        have sub : ∀ b ∈ S', b ∈ S0 ++ ((a :: S1) ++ Sr) := fun b z => (List.mem_append.mp (q3 b z)).elim (fun z => List.mem_append_left _ z) fun z => List.mem_append_right _ (List.mem_append_left _ (List.mem_cons_of_mem _ z))
        refine ⟨⟨(a :: S') ++ Sr, .cons (.held (.lst upd_same (q1.stay st (fun _ z => z) fun b hb => upd_ne (fun z => naS (z ▸ hb))))) (r.stay st (fun _ z => z) fun b hb => upd_ne (fun z => nar (z ▸ hb))), ?_, fun b hb => ?_⟩, w.fG, fun b z => ?_, w.gB, fun b o e => ?_⟩
        · refine List.nodup_append.mpr ⟨List.nodup_cons.mpr ⟨naS, q2⟩, nd3.2.1, fun b hb c hc z => ?_⟩
          subst z
          rcases List.mem_cons.mp hb with rfl | hb
          · exact nar hc
          · rcases List.mem_append.mp (q3 b hb) with z | z
            · exact nd2.2.2 b z b (List.mem_append_right _ hc) rfl
            · exact nd3.2.2 b (List.mem_cons_of_mem _ z) b hc rfl
        · rcases List.mem_append.mp hb with hb | hb
          · rcases List.mem_cons.mp hb with rfl | hb
            · exact ka
            · exact k b (sub b hb)
          · exact k b (List.mem_append_right _ (List.mem_append_right _ hb))
        · obtain ⟨o, e⟩ := w.fH b z
          exact ⟨o, st b o e (.inl z)⟩
        · rw [upd_ne (fun z => by subst z; rw [ka.2.2] at e; cases e)]
          exact w.base b o e
/-- a dict on top is changed -/
theorem World.redictK {a : Addr} {kvs kvs' : List (Key × V)} {ds ds' : List (D × D)} (w : World P B G F ((.dK, .dict ds, some (.ref a)) :: es) H) (he : H a = some (.dK kvs))
    (hr : RFk P H F kvs ds → RFk P H F kvs' ds') : World P B G F ((.dK, .dict ds', some (.ref a)) :: es) (upd H a (.dK kvs')) := by
  obtain ⟨S, h, nd, k⟩ := w.ents
  cases h with
  | cons x r =>
    rename_i Sa Sr
    cases x with
    | held x =>
      cases x with
      | dK e rs =>
        rw [he] at e; cases e
        have ka := k a (List.mem_append_left _ List.mem_cons_self)
        have st : Stay F H (upd H a (.dK kvs')) := Stay.write he trivial ka.1
        have nar : a ∉ Sr := fun z => (List.nodup_append.mp nd).2.2 a List.mem_cons_self a z rfl
        refine ⟨⟨[a] ++ Sr, .cons (.held (.dK upd_same ((hr rs).stay st fun _ z => z))) (r.stay st (fun _ z => z) fun b hb => upd_ne (fun z => nar (z ▸ hb))), nd, k⟩, w.fG, fun b z => ?_, w.gB, fun b o e => ?_⟩
        · obtain ⟨o, e⟩ := w.fH b z
          exact ⟨o, st b o e (.inl z)⟩
        · rw [upd_ne (fun z => by subst z; rw [ka.2.2] at e; cases e)]
          exact w.base b o e
theorem World.redictT {a : Addr} {kvs kvs' : List (List Key × V)} {ds ds' : List (D × D)} (w : World P B G F ((.dT, .dict ds, some (.ref a)) :: es) H) (he : H a = some (.dT kvs))
    (hr : RFt P H F kvs ds → RFt P H F kvs' ds') : World P B G F ((.dT, .dict ds', some (.ref a)) :: es) (upd H a (.dT kvs')) := by
  obtain ⟨S, h, nd, k⟩ := w.ents
  cases h with
  | cons x r =>
    rename_i Sa Sr
    cases x with
    | held x =>
      cases x with
      | dT e rs =>
        rw [he] at e; cases e
        have ka := k a (List.mem_append_left _ List.mem_cons_self)
        have st : Stay F H (upd H a (.dT kvs')) := Stay.write he trivial ka.1
        have nar : a ∉ Sr := fun z => (List.nodup_append.mp nd).2.2 a List.mem_cons_self a z rfl
        refine ⟨⟨[a] ++ Sr, .cons (.held (.dT upd_same ((hr rs).stay st fun _ z => z))) (r.stay st (fun _ z => z) fun b hb => upd_ne (fun z => nar (z ▸ hb))), nd, k⟩, w.fG, fun b z => ?_, w.gB, fun b o e => ?_⟩
        · obtain ⟨o, e⟩ := w.fH b z
          exact ⟨o, st b o e (.inl z)⟩
        · rw [upd_ne (fun z => by subst z; rw [ka.2.2] at e; cases e)]
          exact w.base b o e
end
end Z

set_option maxRecDepth 100000
set_option maxHeartbeats 1000000
namespace Z
open PySem PySem.Spec PyProof.Rows L2

abbrev Env' := List D
inductive R (α : Type) where
  | ok (a : α) | exc (c : Nat) (xs : List D) (ρ : Env') | bad
def R.bind {α β : Type} (x : R α) (f : α → R β) : R β := match x with
  | .ok a => f a
  | .exc c xs ρ => .exc c xs ρ
  | .bad => .bad
instance : Monad R where
  pure := .ok
  bind := R.bind
@[simp] theorem R.ok_bind {α β : Type} (a : α) (f : α → R β) : (R.ok a >>= f) = f a := rfl
@[simp] theorem R.bad_bind {α β : Type} (f : α → R β) : ((R.bad : R α) >>= f) = R.bad := rfl
@[simp] theorem R.exc_bind {α β : Type} (c : Nat) (xs : List D) (ρ : Env') (f : α → R β) : ((R.exc c xs ρ : R α) >>= f) = R.exc c xs ρ := rfl
@[simp] theorem R.pure_eq {α : Type} (a : α) : (pure a : R α) = R.ok a := rfl
theorem R.ok_of_bind {α β : Type} {x : R α} {f : α → R β} {b : β} (h : (x >>= f) = .ok b) : ∃ a, x = .ok a ∧ f a = .ok b := by
  cases x with
  | ok a => exact ⟨a, rfl, h⟩
  | exc => cases h
  | bad => cases h
def ofO {α : Type} : Option α → R α
  | some a => .ok a
  | none => .bad
@[simp] theorem ofO_some {α : Type} (a : α) : ofO (some a) = .ok a := rfl
@[simp] theorem ofO_none {α : Type} : (ofO none : R α) = .bad := rfl

/-- a word that nobody works out -/
noncomputable def cb (p : Prop) : Bool := @decide p (Classical.propDecidable p)
theorem cb_eq (p : Prop) : (cb p = true) = p := propext ⟨fun h => @of_decide_eq_true p (Classical.propDecidable p) h, fun h => @decide_eq_true p (Classical.propDecidable p) h⟩
theorem cb_true {p : Prop} (h : p) : cb p = true := @decide_eq_true p (Classical.propDecidable p) h
/-! ### views -/
inductive Vw (P : Par) (H : Hp) (F : Addr → Prop) : V → D → Prop
  | non : Vw P H F .non .none
  | bl (b : Bool) : Vw P H F (.bl b) (.bool b)
  | int (i : Int) : Vw P H F (.int i) (.int i)
  | str (x : Str) : Vw P H F (.str x) (.str x)
  | tup {a : Addr} {vs : List V} {ds : List D} : SqT P.K H a vs → RFs P H F vs ds → Vw P H F (.ref a) (.tuple ds)
  | lst {a : Addr} {vs : List V} {ds : List D} : H a = some (.lst vs) → RFs P H F vs ds → Vw P H F (.ref a) (.list ds)
  | dK {a : Addr} {kvs : List (Key × V)} {ds : List (D × D)} : H a = some (.dK kvs) → RFk P H F kvs ds → Vw P H F (.ref a) (.dict ds)
  | dT {a : Addr} {kvs : List (List Key × V)} {ds : List (D × D)} : H a = some (.dT kvs) → RFt P H F kvs ds → Vw P H F (.ref a) (.dict ds)
theorem RF.vw {P : Par} {H : Hp} {F : Addr → Prop} {v : V} {d : D} (r : RF P H F v d) : Vw P H F v d := by
  cases r with
  | non => exact .non
  | bl b => exact .bl b
  | int i => exact .int i
  | str x => exact .str x
  | tup s r => exact .tup s r
  | lst _ e r => exact .lst e r
  | dK _ e r => exact .dK e r
  | dT _ e r => exact .dT e r
def Md.flat : Md → Bool
  | .frz => true
  | .lst .frz => true
  | .dK => true
  | .dT => true
  | _ => false
theorem RM.vw {P : Par} {H : Hp} {F : Addr → Prop} {m : Md} {v : V} {d : D} {S : List Addr} (hm : m.flat = true) (r : RM P H F m v d S) : Vw P H F v d := by
  cases r with
  | frz r => exact r.vw
  | @lst m _ _ _ _ e r =>
    cases m with
    | frz => exact .lst e (RMs.of_frz r).1
    | _ => cases hm
  | dK e r => exact .dK e r
  | dT e r => exact .dT e r
  | tape r => cases hm
  | scr r => cases hm
theorem Vw.stay {P : Par} {H H' : Hp} {F F' : Addr → Prop} {v : V} {d : D} (h : Same H H') (hF : ∀ a, F a → F' a) (r : Vw P H F v d) : Vw P H' F' v d := by
  cases r with
  | non => exact .non
  | bl b => exact .bl b
  | int i => exact .int i
  | str x => exact .str x
  | tup s r => exact .tup (sqT_stay (F := F) (Stay.same h) s) (r.stay (Stay.same h) hF)
  | lst e r => exact .lst (h _ _ e) (r.stay (Stay.same h) hF)
  | dK e r => exact .dK (h _ _ e) (r.stay (Stay.same h) hF)
  | dT e r => exact .dT (h _ _ e) (r.stay (Stay.same h) hF)
section
variable {P : Par} {B H H' : Hp} {G F F' : Addr → Prop} {es : List Ent}
theorem World.vw {m : Md} {d : D} {v : V} (w : World P B G F es H) (hm : (m, d, some v) ∈ es) (hf : m.flat = true) : Vw P H F v d := by
  obtain ⟨v', e, S, r, _⟩ := w.mem hm (by intro z; subst z; cases hf)
  cases e
  exact r.vw hf
/-- a new frozen list -/
theorem World.lstF {p : Addr} {vs : List V} {ds : List D} (w : World P B G F es H) (r : RFs P H F vs ds) (hp : H p = none) :
    ∃ F', (∀ a, F a → F' a) ∧ World P B G F' ((.frz, .list ds, some (.ref p)) :: es) (upd H p (.lst vs)) := (w.lst0 r hp).freeze rfl
end

/-! ### operations by values -/
section
variable {X : Cx} {P : Par}
/-- how an operation goes on: a result on top of the world -/
def Res (P : Par) (B : Hp) (G F : Addr → Prop) (es : List Ent) (m : Md) (z : D) (Q : VK) : Prop :=
  ∀ v H' F', World P B G F' ((m, z, some v) :: es) H' → (∀ a, F a → F' a) → Q v H'
def OpV (X : Cx) (P : Par) (f : Value → Value → Sem Value) (g : D → D → Option D) (m : Md) : Prop :=
  OpR X f fun v1 v2 H Q => ∃ B G F es x y z, World P B G F es H ∧ Vw P H F v1 x ∧ Vw P H F v2 y ∧ g x y = some z ∧ Res P B G F es m z Q
theorem Res.rf {B H : Hp} {G F : Addr → Prop} {es : List Ent} {z : D} {Q : VK} {v : V} (k : Res P B G F es .frz z Q) (w : World P B G F es H) (r : RF P H F v z) : Q v H := k v H F (w.push r) fun _ z => z
theorem Vw.frz {H : Hp} {F : Addr → Prop} {a : Addr} {ds : List D} (r : Vw P H F (.ref a) (.tuple ds)) : RF P H F (.ref a) (.tuple ds) := by
  cases r with
  | tup s r => exact .tup s r

def addD : D → D → Option D
  | .int i, .int j => some (.int (i + j))
  | .str x, .str y => if x.length + y.length ≤ sizeLine then some (.str (x ++ y)) else none
  | .list xs, .list ys => if xs.length + ys.length ≤ sizeLine then some (.list (xs ++ ys)) else none
  | .tuple xs, .tuple ys => if xs.length + ys.length ≤ sizeLine then some (.tuple (xs ++ ys)) else none
  | _, _ => none
theorem addV (hK : X.K = P.K) : OpV X P (binaryOp .Add) addD .frz := by
  intro pins s σ H v1 v2 u1 u2 Q I r1 r2 h
  obtain ⟨B, G, F, es, x, y, z, w, h1, h2, hg, k⟩ := h
  cases h1 <;> cases h2 <;> simp only [addD, Option.some.injEq, reduceCtorEq] at hg
  · subst hg
    exact op_add pins s σ H _ _ _ _ Q I r1 r2 ⟨_, _, rfl, rfl, k.rf w (.int _)⟩
  · split at hg
    · cases hg
      exact op_add_str pins s σ H _ _ _ _ Q I r1 r2 ⟨_, _, rfl, rfl, by assumption, k.rf w (.str _)⟩
    · cases hg
  · split at hg
    · rename_i a vs ds s1 q1 b ws es' s2 q2 hl
      cases hg
      refine op_catA pins s σ H _ _ _ _ Q I r1 r2 ⟨_, _, _, _, rfl, rfl, hK ▸ s1, hK ▸ s2, by rw [q1.length, q2.length]; exact hl, fun e => ?_, fun e1 e2 => ?_, fun e1 e2 p hp => ?_⟩
      · subst e
        cases q1
        exact k.rf w (.tup s2 q2)
      · subst e2
        cases q2
        rw [List.append_nil] at k
        exact k.rf w (.tup s1 q1)
      · exact k _ _ _ (w.tup hp (q1.append q2)) fun _ z => z
    · cases hg
  · split at hg
    · rename_i a vs ds s1 q1 b ws es' s2 q2 hl
      cases hg
      refine op_cat pins s σ H _ _ _ _ Q I r1 r2 ⟨_, _, _, _, rfl, rfl, s1, s2, by rw [q1.length, q2.length]; exact hl, fun p hp => ?_⟩
      obtain ⟨F', hF, w'⟩ := w.lstF (q1.append q2) hp
      exact k _ _ F' w' hF
    · cases hg
end
end Z

set_option maxRecDepth 100000
set_option maxHeartbeats 1000000
namespace Z
open PySem PySem.Spec PyProof.Rows L2

section
variable {X : Cx} {P : Par}
/-! ### data, as the library reads it -/
section
variable {H : Hp} {F : Addr → Prop}
mutual
theorem RF.dp : ∀ {v : V} {d : D}, d.canLay0 = true → RF P H F v d → Dp P.K H v d
  | _, _, _, .non => .non
  | _, _, _, .bl b => .bl b
  | _, _, _, .int i => .int i
  | _, _, _, .str x => .str x
  | _, .tuple ds, h, .tup s r => .tup s (RFs.dp (by simpa only [PyData.canLay0] using h) r)
  | _, .list ds, h, .lst _ e r => .lst (SqL.of e) (RFs.dp (by simpa only [PyData.canLay0] using h) r)
  | _, _, h, .dK _ _ _ => by simp [PyData.canLay0] at h
  | _, _, h, .dT _ _ _ => by simp [PyData.canLay0] at h
theorem RFs.dp : ∀ {v : List V} {d : List D}, PyData.canLayAll0 d = true → RFs P H F v d → DpAll P.K H v d
  | _, _, _, .nil => .nil
  | _, _, h, .cons a r => by
    simp only [PyData.canLayAll0, Bool.and_eq_true] at h
    exact .cons (RF.dp h.1 a) (RFs.dp h.2 r)
end
theorem Vw.dp {v : V} {d : D} (h : d.canLay0 = true) (r : Vw P H F v d) : Dp P.K H v d := by
  cases r with
  | non => exact .non
  | bl b => exact .bl b
  | int i => exact .int i
  | str x => exact .str x
  | tup s r => exact .tup s (r.dp (by simpa only [PyData.canLay0] using h))
  | lst e r => exact .lst (SqL.of e) (r.dp (by simpa only [PyData.canLay0] using h))
  | dK => simp [PyData.canLay0] at h
  | dT => simp [PyData.canLay0] at h
end

/-! ### arithmetic -/
def subD : D → D → Option D
  | .int i, .int j => some (.int (i - j))
  | _, _ => none
theorem subV : OpV X P (binaryOp .Sub) subD .frz := by
  intro pins s σ H v1 v2 u1 u2 Q I r1 r2 h
  obtain ⟨B, G, F, es, x, y, z, w, h1, h2, hg, k⟩ := h
  cases h1 <;> cases h2 <;> simp only [subD, Option.some.injEq, reduceCtorEq] at hg
  subst hg
  exact op_sub pins s σ H _ _ _ _ Q I r1 r2 ⟨_, _, rfl, rfl, k.rf w (.int _)⟩
/-- an operation on two ints -/
theorem intV {f : Value → Value → Sem Value} {C : Int → Int → Prop} {c : Int → Int → Bool} {g : Int → Int → Int} {gd : D → D → Option D} (h0 : OpR X f (rI C fun i j => .int (g i j))) (hc : ∀ i j, c i j = true → C i j)
    (hg : ∀ x y z, gd x y = some z → ∃ i j, x = .int i ∧ y = .int j ∧ c i j = true ∧ z = .int (g i j)) : OpV X P f gd .frz := by
  intro pins s σ H v1 v2 u1 u2 Q I r1 r2 h
  obtain ⟨B, G, F, es, x, y, z, w, h1, h2, h3, k⟩ := h
  obtain ⟨i, j, rfl, rfl, q, rfl⟩ := hg _ _ _ h3
  cases h1
  cases h2
  exact h0 pins s σ H _ _ _ _ Q I r1 r2 ⟨_, _, rfl, rfl, hc _ _ q, k.rf w (.int _)⟩
def intD (c : Int → Int → Bool) (g : Int → Int → Int) : D → D → Option D
  | .int i, .int j => if c i j = true then some (.int (g i j)) else none
  | _, _ => none
theorem intD_some {c : Int → Int → Bool} {g : Int → Int → Int} : ∀ x y z, intD c g x y = some z → ∃ i j, x = .int i ∧ y = .int j ∧ c i j = true ∧ z = .int (g i j) := by
  intro x y z h
  cases x <;> cases y <;> simp only [intD, reduceCtorEq] at h
  split at h
  · cases h
    exact ⟨_, _, rfl, rfl, by assumption, rfl⟩
  · cases h
noncomputable def okDiv (i j : Int) : Bool := cb (0 < j) && cb (j.natAbs.log2 < 9000)
noncomputable def fdivD : D → D → Option D := intD okDiv fun i j => i / j
theorem fdivV : OpV X P (binaryOp .FloorDiv) fdivD .frz := intV op_fdivW (fun i j h => by simp only [okDiv, Bool.and_eq_true, decide_eq_true_eq, cb_eq] at h; exact h) intD_some
def okMod (_ j : Int) : Bool := decide (0 < j)
def modD : D → D → Option D := intD okMod fun i j => i % j
theorem modV : OpV X P (binaryOp .Mod) modD .frz := intV op_mod (fun i j h => of_decide_eq_true h) intD_some
noncomputable def okPow (i j : Int) : Bool := cb (0 ≤ j) && cb ((Builtin.Int.intBits i : Int) * j ≤ 2 ^ 27)
noncomputable def powD : D → D → Option D := intD okPow fun i j => i ^ j.toNat
theorem op_powW : OpR X (binaryOp .Pow) (rI (fun i j => okPow i j = true) fun i j => .int (i ^ j.toNat)) := opI fun i j _ _ _ _ _ hc q => by
  simp only [okPow, Bool.and_eq_true, decide_eq_true_eq, cb_eq] at hc
  exact pow_int hc.1 hc.2 q
theorem powV : OpV X P (binaryOp .Pow) powD .frz := intV op_powW (fun i j h => h) intD_some
noncomputable def okShl (i j : Int) : Bool := cb (0 ≤ j) && cb (j ≤ 1000000) && cb (i.natAbs < 2 ^ 64)
noncomputable def shlD : D → D → Option D := intD okShl fun i j => i * 2 ^ j.toNat
theorem shlV : OpV X P (binaryOp .LShift) shlD .frz := intV op_shl (fun i j h => by simp only [okShl, Bool.and_eq_true, decide_eq_true_eq, cb_eq] at h; exact ⟨h.1.1, h.1.2, h.2⟩) intD_some
def shrD : D → D → Option D := intD (fun _ j => decide (0 ≤ j)) fun i j => i / 2 ^ j.toNat
theorem shrV : OpV X P (binaryOp .RShift) shrD .frz := intV op_shr (fun i j h => of_decide_eq_true h) intD_some
theorem rI_of {f : Value → Value → Sem Value} {g : Int → Int → V} (h : OpR X f (rI0 g)) : OpR X f (rI (fun _ _ => True) g) := fun pins s σ H x y v u Q I r1 r2 ⟨i, j, e1, e2, _, q⟩ => h pins s σ H x y v u Q I r1 r2 ⟨i, j, e1, e2, q⟩
def andD : D → D → Option D := intD (fun _ _ => true) Builtin.bitAnd
theorem andV : OpV X P (binaryOp .BitAnd) andD .frz := intV (rI_of op_and) (fun _ _ _ => trivial) intD_some
def orD : D → D → Option D := intD (fun _ _ => true) Builtin.bitOr
theorem orV : OpV X P (binaryOp .BitOr) orD .frz := intV (rI_of op_or) (fun _ _ _ => trivial) intD_some
def xorD : D → D → Option D := intD (fun _ _ => true) Builtin.bitXor
theorem xorV : OpV X P (binaryOp .BitXor) xorD .frz := intV (rI_of op_xor) (fun _ _ _ => trivial) intD_some

/-! ### times -/
noncomputable def okMul (i j : Int) : Bool := cb (i.natAbs.log2 + j.natAbs.log2 < 1000000) || (cb (-(2 ^ 64) < i) && cb (i < 2 ^ 64)) || (cb (-(2 ^ 64) < j) && cb (j < 2 ^ 64))
noncomputable def okRep (n : Nat) (k : Int) : Bool := cb (-(2 ^ 63) ≤ k) && cb (k < 2 ^ 63) && cb (n * k.toNat ≤ sizeLine)
noncomputable def okRepS (x : Str) (n : Int) : Bool := cb (-(2 ^ 63 : Int) ≤ n) && cb (n ≤ 1000000) && cb (x.length ≤ 16)
noncomputable def mulD : D → D → Option D
  | .int i, .int j => if okMul i j = true then some (.int (i * j)) else none
  | .list xs, .int k => if okRep xs.length k = true then some (.list (List.replicate k.toNat xs).flatten) else none
  | .tuple xs, .int k => if okRep xs.length k = true then some (.tuple (List.replicate k.toNat xs).flatten) else none
  | .str x, .int n => if okRepS x n = true then some (.str (Txt.mul x n)) else none
  | _, _ => none
theorem tuple_mul_same (l : Addr) (items : Array Value) (n : Nat) (dd : Option Addr) (sl : Array (Option Value)) (x : Int) (u : Tok) (c0 : (decide (x < -(2 ^ 63)) || decide (x ≥ 2 ^ 63)) = false) (c1 : (items.isEmpty || x == 1) = true) :
    Meets (Builtin.«tuple.__mul__» ⟨[.ref l, .int x u], []⟩) (fun _ R s => s.heap.get? l = some { cls := .type "tuple", dict := dd, data := .seq items n, slots := sl } ∧
      R (.ok (.ret (Value.ref l))) s) :=
  .of_wp fun prog w A R s h => by
    obtain ⟨hp, g, d, tk, os⟩ := s
    obtain ⟨hl, h⟩ := h
    have f1 := AutoSeq1.idx_int
    wp_walk using wpAny_loadPart' hl
    refine wpAny_ite_false (decide_eq_false (by rw [c0]; exact Bool.false_ne_true)) ?_
    wp_walk using wpAny_loadPart' hl
    exact ⟨_, rfl, h⟩
theorem tuple_mul_none (l : Addr) (items : Array Value) (n : Nat) (dd : Option Addr) (sl : Array (Option Value)) (x : Int) (u : Tok) (c0 : (decide (x < -(2 ^ 63)) || decide (x ≥ 2 ^ 63)) = false) (c1 : (items.isEmpty || x == 1) = false) (c2 : (decide (x ≤ 0) || items.isEmpty) = true) :
    Meets (Builtin.«tuple.__mul__» ⟨[.ref l, .int x u], []⟩) (fun _ R s => s.heap.get? l = some { cls := .type "tuple", dict := dd, data := .seq items n, slots := sl } ∧
      R (.ok (.ret (Value.ref s.heap.objs.size))) { s with heap := s.heap.push { cls := Value.type "tuple", data := Data.seq #[] }, toks := s.toks }) :=
  .of_wp fun prog w A R s h => by
    obtain ⟨hp, g, d, tk, os⟩ := s
    obtain ⟨hl, h⟩ := h
    have f1 := AutoSeq1.idx_int
    wp_walk using wpAny_loadPart' hl
    refine wpAny_ite_false (decide_eq_false (by rw [c0]; exact Bool.false_ne_true)) ?_
    wp_walk using wpAny_loadPart' hl
    exact ⟨_, rfl, h⟩
theorem rep_flat_len {α : Type} (xs : List α) (n : Nat) : (List.replicate n xs).flatten.length = n * xs.length := by
  induction n with
  | zero => simp
  | succ n ih => simp only [List.replicate_succ, List.flatten_cons, List.length_append, ih, Nat.succ_mul]; omega
/-- a tuple times any int -/
def rTm (K : PySem.W.Frag) : R2 := fun x y H Q => ∃ l k xs, x = .ref l ∧ y = .int k ∧ SqT K H l xs ∧ okRep xs.length k = true ∧
  ((List.replicate k.toNat xs).flatten = xs → Q (.ref l) H) ∧ ∀ p, H p = none → Q (.ref p) (upd H p (.tup (List.replicate k.toNat xs).flatten))
theorem op_tm : OpR X (binaryOp .Mult) (rTm X.K) := by
  intro pins s σ H x y v u Q I rx ry h
  obtain ⟨l, k, xs, rfl, rfl, hT, hok, qs, qn⟩ := h
  simp only [okRep, Bool.and_eq_true, decide_eq_true_eq, cb_eq] at hok
  obtain ⟨⟨k1, k2⟩, k3⟩ := hok
  cases rx
  obtain ⟨t, rfl⟩ := ry
  obtain ⟨its, r, ⟨⟨cls, dd, data, sl⟩, ho, hc, n, hd⟩, hs⟩ := I.tuple hT
  simp only at hc hd
  subst hc hd
  have hle : its.length = xs.length := r.length.symm
  have c0 : (decide (k < -(2 ^ 63)) || decide (k ≥ 2 ^ 63)) = false := by
    rw [decide_eq_false (by omega), decide_eq_false (by omega)]; rfl
  by_cases hx : (its.toArray.isEmpty || k == 1) = true
  · refine wpAny_binaryOp_repeat_ref (T := "tuple") (U := "int") (by decide) ⟨_, ho, rfl⟩ (fun s' => typeIs_int s' k t) noFill_tuple_mul F.fills_int_mul F.slot_int_rmul repeat_tuple F.slot_int_index.lookup
      (call_meets F.slot_int_rmul (typeIs_int s k t) F.entry_int_rmul (F.args_int_rmul_2 _ _) (int_rmul_tuple k t l its.toArray n dd sl)
        ⟨ho, rfl, ⟨_, ho, rfl⟩, call_meets F.slot_tuple_mul ⟨_, ho, rfl⟩ F.entry_tuple_mul (F.args_tuple_mul_2 _ _) (tuple_mul_same l its.toArray n dd sl k t c0 hx) ⟨ho, ?_⟩⟩)
    refine ⟨.ref l, H, I, rfl, qs ?_⟩
    rcases (Bool.or_eq_true _ _).mp hx with e | e
    · have e' : its = [] := by simpa using e
      rw [e'] at hle
      have e2 : xs = [] := List.eq_nil_of_length_eq_zero hle.symm
      subst e2
      simp
    · have e' : k = 1 := by simpa using e
      subst e'
      simp
  · have hx' : (its.toArray.isEmpty || k == 1) = false := by simpa using hx
    have hne : its ≠ [] := fun e => by subst e; simp at hx'
    by_cases hz : k ≤ 0
    · have c2 : (decide (k ≤ 0) || its.toArray.isEmpty) = true := by simp [hz]
      refine wpAny_binaryOp_repeat_ref (T := "tuple") (U := "int") (by decide) ⟨_, ho, rfl⟩ (fun s' => typeIs_int s' k t) noFill_tuple_mul F.fills_int_mul F.slot_int_rmul repeat_tuple F.slot_int_index.lookup
        (call_meets F.slot_int_rmul (typeIs_int s k t) F.entry_int_rmul (F.args_int_rmul_2 _ _) (int_rmul_tuple k t l its.toArray n dd sl)
          ⟨ho, rfl, ⟨_, ho, rfl⟩, call_meets F.slot_tuple_mul ⟨_, ho, rfl⟩ F.entry_tuple_mul (F.args_tuple_mul_2 _ _) (tuple_mul_none l its.toArray n dd sl k t c0 hx' c2) ⟨ho, ?_⟩⟩)
      have e0 : (List.replicate k.toNat xs).flatten = [] := by
        have : k.toNat = 0 := by omega
        rw [this]; rfl
      rw [e0] at qn
      exact ⟨.ref s.heap.objs.size, _, I.laid (t' := s.toks) (o := .tup []) (fun b ob q => Heap.get?_push_of_some _ q) (Nat.le_refl _) ⟨Nat.zero_le _, [], .nil, IsTup.new _ _⟩, rfl, qn _ (I.hok.fresh (Nat.le_refl _))⟩
    · have c2 : (decide (k ≤ 0) || its.toArray.isEmpty) = false := by simp [hz, hne]
      have hsz : ((its.toArray.size : Nat) : Int) * k ≤ (sizeLine : Int) := by
        rw [List.size_toArray, hle]
        have : ((xs.length * k.toNat : Nat) : Int) ≤ (sizeLine : Int) := Int.ofNat_le.mpr k3
        rw [Int.natCast_mul] at this
        have e : ((k.toNat : Nat) : Int) = k := by omega
        rw [e] at this
        exact this
      have c4 : Builtin.Tuple.tupleTooMany (((its.toArray.size : Nat) : Int) * k) = false := decide_eq_false (by omega)
      have hsz2 : ((its.toArray.size : Nat) : Int) * k ≤ 16777216 := by rw [sizeLine_eq] at hsz; exact hsz
      have flen : (List.replicate k.toNat its).flatten.length ≤ sizeLine := by
        rw [rep_flat_len, hle, Nat.mul_comm]; exact k3
      refine wpAny_binaryOp_repeat_ref (T := "tuple") (U := "int") (by decide) ⟨_, ho, rfl⟩ (fun s' => typeIs_int s' k t) noFill_tuple_mul F.fills_int_mul F.slot_int_rmul repeat_tuple F.slot_int_index.lookup
        (call_meets F.slot_int_rmul (typeIs_int s k t) F.entry_int_rmul (F.args_int_rmul_2 _ _) (int_rmul_tuple k t l its.toArray n dd sl)
          ⟨ho, rfl, ⟨_, ho, rfl⟩, call_meets F.slot_tuple_mul ⟨_, ho, rfl⟩ F.entry_tuple_mul (F.args_tuple_mul_2 _ _) (tuple_mulW l its.toArray n dd sl k t c0 hx' c2 (by omega) c4 (by rw [size_rep, List.size_toArray]; exact flen)) ⟨ho, ?_⟩⟩)
      rw [size_rep]
      refine ⟨.ref s.heap.objs.size, _, I.laid (t' := s.toks) (o := .tup (List.replicate k.toNat xs).flatten) (fun b ob q => Heap.get?_push_of_some _ q) (Nat.le_refl _) ?_, rfl, qn _ (I.hok.fresh (Nat.le_refl _))⟩
      exact ⟨by rw [rep_flat_len, Nat.mul_comm]; exact k3, _, r.rep k.toNat, IsTup.new _ _⟩
theorem op_repS : OpR X (binaryOp .Mult) (fun x y H Q => ∃ z i, x = .str z ∧ y = .int i ∧ okRepS z i = true ∧ Q (.str (Txt.mul z i)) H) := by
  intro pins s σ H x y v u Q I rx ry h
  obtain ⟨z, i, rfl, rfl, hk, q⟩ := h
  obtain ⟨t, rfl⟩ := rx
  obtain ⟨t', rfl⟩ := ry
  simp only [okRepS, Bool.and_eq_true, decide_eq_true_eq, cb_eq] at hk
  exact SB.mul (mulOk_of 16 1000000 hk.2 hk.1.2 hk.1.1 (by decide) (by decide)) fun t k => ⟨.str _, H, I.tok _, ⟨_, rfl⟩, q⟩
theorem mulV (hK : X.K = P.K) : OpV X P (binaryOp .Mult) mulD .frz := by
  intro pins s σ H v1 v2 u1 u2 Q I r1 r2 h
  obtain ⟨B, G, F, es, x, y, z, w, h1, h2, hg, k⟩ := h
  cases h1 <;> cases h2 <;> simp only [mulD, reduceCtorEq] at hg <;> split at hg <;> cases hg
  · rename_i i j hc
    simp only [okMul, Bool.or_eq_true, Bool.and_eq_true, decide_eq_true_eq, cb_eq] at hc
    rcases hc with (hc | hc) | hc
    · exact op_mulW pins s σ H _ _ _ _ Q I r1 r2 ⟨_, _, rfl, rfl, hc, k.rf w (.int _)⟩
    · exact op_mul pins s σ H _ _ _ _ Q I r1 r2 ⟨_, _, rfl, rfl, .inl hc, k.rf w (.int _)⟩
    · exact op_mul pins s σ H _ _ _ _ Q I r1 r2 ⟨_, _, rfl, rfl, .inr hc, k.rf w (.int _)⟩
  · rename_i x i hc
    exact op_repS pins s σ H _ _ _ _ Q I r1 r2 ⟨_, _, rfl, rfl, hc, k.rf w (.str _)⟩
  · rename_i a vs ds s1 q1 i hc
    refine op_tm pins s σ H _ _ _ _ Q I r1 r2 ⟨_, _, _, rfl, rfl, hK ▸ s1, by rw [q1.length]; exact hc, fun e => ?_, fun p hp => k _ _ _ (w.tup hp (q1.replicate _)) fun _ z => z⟩
    have e2 := q1.replicate i.toNat
    rw [e] at e2
    exact k.rf w (.tup s1 e2)
  · rename_i a vs ds s1 q1 i hc
    have hc' := hc
    simp only [okRep, Bool.and_eq_true, decide_eq_true_eq, cb_eq] at hc'
    refine op_rep pins s σ H _ _ _ _ Q I r1 r2 ⟨_, _, _, rfl, rfl, s1, hc'.1.1, hc'.1.2, by rw [q1.length]; exact hc'.2, fun p hp => ?_⟩
    obtain ⟨F', hF, w'⟩ := w.lstF (q1.replicate i.toNat) hp
    exact k _ _ F' w' hF
end
end Z

set_option maxRecDepth 100000
set_option maxHeartbeats 1000000
namespace Z
open PySem PySem.Spec PyProof.Rows L2
section
variable {X : Cx} {P : Par}
/-! ### comparisons -/
def eqD : D → D → Option D
  | .str x, .str y => some (.bool (x == y))
  | x, y => if SeqAt.shaped x = true ∧ SeqAt.shaped y = true then some (.bool (PyData.eqv x y)) else none
def neD : D → D → Option D
  | .str x, .str y => some (.bool (!(x == y)))
  | x, y => if SeqAt.shaped x = true ∧ SeqAt.shaped y = true then some (.bool (!PyData.eqv x y)) else none
def bothStr : D → D → Bool
  | .str _, .str _ => true
  | _, _ => false
theorem eqD_other {x y : D} (h : bothStr x y = false) : eqD x y = if SeqAt.shaped x = true ∧ SeqAt.shaped y = true then some (.bool (PyData.eqv x y)) else none := by
  cases x <;> cases y <;> first | rfl | cases h
theorem neD_other {x y : D} (h : bothStr x y = false) : neD x y = if SeqAt.shaped x = true ∧ SeqAt.shaped y = true then some (.bool (!PyData.eqv x y)) else none := by
  cases x <;> cases y <;> first | rfl | cases h
theorem bothStr_of {x y : D} (h : bothStr x y = true) : ∃ a b, x = .str a ∧ y = .str b := by
  cases x <;> cases y <;> first | exact ⟨_, _, rfl, rfl⟩ | cases h
theorem eqV (hK : X.K = P.K) (hu : X.A.units + 64 < cLine) : OpV X P (compareOp .Eq) eqD .frz := by
  intro pins s σ H v1 v2 u1 u2 Q I r1 r2 h
  obtain ⟨B, G, F, es, x, y, z, w, h1, h2, hg, k⟩ := h
  cases hb : bothStr x y with
  | true =>
    obtain ⟨a, b, rfl, rfl⟩ := bothStr_of hb
    cases hg
    cases h1
    cases h2
    exact op_eq pins s σ H _ _ _ _ Q I r1 r2 ⟨rfl, by rw [dec_str]; exact k.rf w (.bl _)⟩
  | false =>
  rw [eqD_other hb] at hg
  split at hg
  · rename_i c
    cases hg
    exact op_eqD hu pins s σ H _ _ _ _ Q I r1 r2 ⟨x, y, hK ▸ h1.dp (SeqAt.canLay_of_shaped c.1), hK ▸ h2.dp (SeqAt.canLay_of_shaped c.2), c.1, c.2, k.rf w (.bl _)⟩
  · cases hg
theorem neV (hK : X.K = P.K) (hu : X.A.units + 64 < cLine) : OpV X P (compareOp .NotEq) neD .frz := by
  intro pins s σ H v1 v2 u1 u2 Q I r1 r2 h
  obtain ⟨B, G, F, es, x, y, z, w, h1, h2, hg, k⟩ := h
  cases hb : bothStr x y with
  | true =>
    obtain ⟨a, b, rfl, rfl⟩ := bothStr_of hb
    cases hg
    cases h1
    cases h2
    exact op_ne pins s σ H _ _ _ _ Q I r1 r2 ⟨rfl, by rw [dec_str]; exact k.rf w (.bl _)⟩
  | false =>
  rw [neD_other hb] at hg
  split at hg
  · rename_i c
    cases hg
    exact op_neD hu pins s σ H _ _ _ _ Q I r1 r2 ⟨x, y, hK ▸ h1.dp (SeqAt.canLay_of_shaped c.1), hK ▸ h2.dp (SeqAt.canLay_of_shaped c.2), c.1, c.2, k.rf w (.bl _)⟩
  · cases hg
/-- a list of ints, if it is one -/
def intsOf : List D → Option (List Int)
  | [] => some []
  | .int i :: r => (intsOf r).map (i :: ·)
  | _ :: _ => none
theorem intsOf_some : ∀ {ds : List D} {ns : List Int}, intsOf ds = some ns → ds = ns.map PyData.int
  | [], _, h => by cases h; rfl
  | .int i :: r, ns, h => by
    simp only [intsOf, Option.map_eq_some_iff] at h
    obtain ⟨l, e, rfl⟩ := h
    rw [intsOf_some e]; rfl
  | .none :: _, _, h => by cases h
  | .bool _ :: _, _, h => by cases h
  | .str _ :: _, _, h => by cases h
  | .list _ :: _, _, h => by cases h
  | .tuple _ :: _, _, h => by cases h
  | .dict _ :: _, _, h => by cases h
@[simp] theorem intsOf_map (ns : List Int) : intsOf (ns.map PyData.int) = some ns := by
  induction ns with
  | nil => rfl
  | cons a l ih => simp [intsOf, ih]
/-- order of ints, texts, tuples of ints: told by a word for each -/
def ordD (fi : Int → Int → Bool) (fs : Str → Str → Bool) (ft : List Int → List Int → Option Bool) : D → D → Option D
  | .int i, .int j => some (.bool (fi i j))
  | .str x, .str y => some (.bool (fs x y))
  | .tuple xs, .tuple ys => match intsOf xs, intsOf ys with
    | some ns, some ms => (ft ns ms).map .bool
    | _, _ => none
  | _, _ => none
theorem ordV {f : Value → Value → Sem Value} {fi : Int → Int → Bool} {fs : Str → Str → Bool} {ft : List Int → List Int → Option Bool} (hK : X.K = P.K) (hi : OpR X f (rI0 fun i j => .bl (fi i j)))
    (hs : OpR X f fun x y H Q => ∃ i j, x = .str i ∧ y = .str j ∧ Q (.bl (fs i j)) H)
    (ht : ∀ b, OpR X f fun x y H Q => ∃ a c ns ms, x = .ref a ∧ y = .ref c ∧ SqT X.K H a (ns.map V.int) ∧ SqT X.K H c (ms.map V.int) ∧ ft ns ms = some b ∧ Q (.bl b) H) : OpV X P f (ordD fi fs ft) .frz := by
  intro pins s σ H v1 v2 u1 u2 Q I r1 r2 h
  obtain ⟨B, G, F, es, x, y, z, w, h1, h2, hg, k⟩ := h
  cases h1 <;> cases h2 <;> simp only [ordD, reduceCtorEq, Option.some.injEq] at hg
  · subst hg
    exact hi pins s σ H _ _ _ _ Q I r1 r2 ⟨_, _, rfl, rfl, k.rf w (.bl _)⟩
  · subst hg
    exact hs pins s σ H _ _ _ _ Q I r1 r2 ⟨_, _, rfl, rfl, k.rf w (.bl _)⟩
  · rename_i a vs ds s1 q1 b ws es' s2 q2
    cases e1 : intsOf ds with
    | none => rw [e1] at hg; cases hg
    | some ns =>
      cases e2 : intsOf es' with
      | none => rw [e1, e2] at hg; cases hg
      | some ms =>
        rw [e1, e2] at hg
        obtain ⟨c, e3, rfl⟩ := Option.map_eq_some_iff.mp hg
        rw [intsOf_some e1] at q1
        rw [intsOf_some e2] at q2
        rw [q1.ints] at s1
        rw [q2.ints] at s2
        exact ht c pins s σ H _ _ _ _ Q I r1 r2 ⟨_, _, ns, ms, rfl, rfl, hK ▸ s1, hK ▸ s2, e3, k.rf w (.bl _)⟩
def ltD : D → D → Option D := ordD (fun i j => decide (i < j)) (fun x y => decide (x.cps.toList < y.cps.toList)) fun ns ms => some (HT.lexLt ns ms)
theorem ltV (hK : X.K = P.K) (hu : X.A.units < cLine) : OpV X P (compareOp .Lt) ltD .frz := ordV hK op_lt op_lt_str fun b pins s σ H x y v u Q I r1 r2 h => by
  obtain ⟨a, c, ns, ms, e1, e2, s1, s2, e3, q⟩ := h
  cases e3
  exact op_ltT hu pins s σ H x y v u Q I r1 r2 ⟨a, c, ns, ms, e1, e2, s1, s2, q⟩
def leT (ns ms : List Int) : Bool := Ob.lexAt (fun j => decide (ns.getD j 0 = ms.getD j 0)) (fun j => decide (ns.getD j 0 ≤ ms.getD j 0)) (decide (ns.length ≤ ms.length)) 0 (min ns.length ms.length)
def leD : D → D → Option D := ordD (fun i j => decide (i ≤ j)) (fun x y => !decide (y.cps.toList < x.cps.toList)) fun ns ms => some (leT ns ms)
theorem leV (hK : X.K = P.K) (hu : X.A.units < cLine) : OpV X P (compareOp .LtE) leD .frz := ordV hK op_le op_le_str fun b pins s σ H x y v u Q I r1 r2 h => by
  obtain ⟨a, c, ns, ms, e1, e2, s1, s2, e3, q⟩ := h
  cases e3
  exact op_leT hu pins s σ H x y v u Q I r1 r2 ⟨a, c, ns, ms, e1, e2, s1, s2, q⟩
def gtD : D → D → Option D := ordD (fun i j => decide (j < i)) (fun x y => decide (y.cps.toList < x.cps.toList)) fun _ _ => none
theorem gtV (hK : X.K = P.K) : OpV X P (compareOp .Gt) gtD .frz := ordV hK op_gt op_gt_str fun b pins s σ H x y v u Q I r1 r2 h => by
  obtain ⟨a, c, ns, ms, e1, e2, s1, s2, e3, q⟩ := h
  cases e3
def geD : D → D → Option D := ordD (fun i j => decide (j ≤ i)) (fun x y => !decide (x.cps.toList < y.cps.toList)) fun _ _ => none
theorem geV (hK : X.K = P.K) : OpV X P (compareOp .GtE) geD .frz := ordV hK op_ge op_ge_str fun b pins s σ H x y v u Q I r1 r2 h => by
  obtain ⟨a, c, ns, ms, e1, e2, s1, s2, e3, q⟩ := h
  cases e3
/-- x in y, y a list or a tuple of data -/
def hasD (x : D) (ds : List D) : Bool := ds.any fun z => PyData.eqv z x
def inD (neg : Bool) (x : D) : D → Option D
  | .list ds => if SeqAt.shaped x = true ∧ SeqAt.shaped (.list ds) = true then some (.bool (hasD x ds ^^ neg)) else none
  | .tuple ds => if SeqAt.shaped x = true ∧ SeqAt.shaped (.tuple ds) = true then some (.bool (hasD x ds ^^ neg)) else none
  | .str y => match x with
    | .str x => some (.bool ((!(Builtin.Str.occurrences y x 0 y.length 1).isEmpty) ^^ neg))
    | _ => none
  | _ => none
theorem inV (hK : X.K = P.K) (hu : X.A.units + 65 < cLine) : OpV X P (compareOp .In) (inD false) .frz := by
  intro pins s σ H v1 v2 u1 u2 Q I r1 r2 h
  obtain ⟨B, G, F, es, x, y, z, w, h1, h2, hg, k⟩ := h
  cases y <;> simp only [inD, reduceCtorEq] at hg
  · rename_i y
    cases x <;> simp only [reduceCtorEq, Option.some.injEq] at hg
    subst hg
    cases h1; cases h2
    exact op_in_str pins s σ H _ _ _ _ Q I r1 r2 ⟨_, _, rfl, rfl, by simpa using k.rf w (.bl _)⟩
  · rename_i ds
    split at hg
    · rename_i c
      cases hg
      exact op_inD hu pins s σ H _ _ _ _ Q I r1 r2 ⟨x, ds, hK ▸ h1.dp (SeqAt.canLay_of_shaped c.1), hK ▸ h2.dp (SeqAt.canLay_of_shaped c.2), c.1, c.2, by simpa [hasD] using k.rf w (.bl _)⟩
    · cases hg
  · rename_i ds
    split at hg
    · rename_i c
      cases hg
      obtain ⟨as, q1⟩ := Dp.reads I x _ _ (hK ▸ h1.dp (SeqAt.canLay_of_shaped c.1)) r1
      obtain ⟨bs, q2⟩ := Dp.reads I (.tuple ds) _ _ (hK ▸ h2.dp (SeqAt.canLay_of_shaped c.2)) r2
      have c2 := SeqAt.canLay_of_shaped c.2
      simp only [PyData.canLay0] at c2
      exact SeqAt.in_tuple_reads q2 q1 c2 (SeqAt.canLay_of_shaped c.1) (room_in_shaped c.1 hu) ⟨.bl _, H, I, rfl, by simpa [hasD] using k.rf w (.bl _)⟩
    · cases hg
theorem notInV (hK : X.K = P.K) (hu : X.A.units + 65 < cLine) : OpV X P (compareOp .NotIn) (inD true) .frz := by
  intro pins s σ H v1 v2 u1 u2 Q I r1 r2 h
  obtain ⟨B, G, F, es, x, y, z, w, h1, h2, hg, k⟩ := h
  cases y <;> simp only [inD, reduceCtorEq] at hg
  · rename_i y
    cases x <;> simp only [reduceCtorEq, Option.some.injEq] at hg
    subst hg
    cases h1; cases h2
    exact op_notin_str pins s σ H _ _ _ _ Q I r1 r2 ⟨_, _, rfl, rfl, by simpa using k.rf w (.bl _)⟩
  · rename_i ds
    split at hg
    · rename_i c
      cases hg
      exact op_notInD hu pins s σ H _ _ _ _ Q I r1 r2 ⟨x, ds, hK ▸ h1.dp (SeqAt.canLay_of_shaped c.1), hK ▸ h2.dp (SeqAt.canLay_of_shaped c.2), c.1, c.2, by simpa [hasD] using k.rf w (.bl _)⟩
    · cases hg
  · rename_i ds
    split at hg
    · rename_i c
      cases hg
      obtain ⟨as, q1⟩ := Dp.reads I x _ _ (hK ▸ h1.dp (SeqAt.canLay_of_shaped c.1)) r1
      obtain ⟨bs, q2⟩ := Dp.reads I (.tuple ds) _ _ (hK ▸ h2.dp (SeqAt.canLay_of_shaped c.2)) r2
      have c2 := SeqAt.canLay_of_shaped c.2
      simp only [PyData.canLay0] at c2
      exact SeqAt.notIn_tuple_reads q2 q1 c2 (SeqAt.canLay_of_shaped c.1) (room_in_shaped c.1 hu) ⟨.bl _, H, I, rfl, by simpa [hasD] using k.rf w (.bl _)⟩
    · cases hg
/-- is None -/
def isND (neg : Bool) (x y : D) : Option D := match y with
  | .none => some (.bool ((match x with | .none => true | _ => false) ^^ neg))
  | _ => none
theorem isNV : OpV X P (compareOp .Is) (isND false) .frz := by
  intro pins s σ H v1 v2 u1 u2 Q I r1 r2 h
  obtain ⟨B, G, F, es, x, y, z, w, h1, h2, hg, k⟩ := h
  cases y <;> simp only [isND, reduceCtorEq, Option.some.injEq] at hg
  subst hg
  cases h2
  refine op_isN pins s σ H _ _ _ _ Q I r1 r2 ⟨rfl, ?_⟩
  have q := k.rf w (.bl _)
  cases h1 <;> simpa using q
theorem isNotNV : OpV X P (compareOp .IsNot) (isND true) .frz := by
  intro pins s σ H v1 v2 u1 u2 Q I r1 r2 h
  obtain ⟨B, G, F, es, x, y, z, w, h1, h2, hg, k⟩ := h
  cases y <;> simp only [isND, reduceCtorEq, Option.some.injEq] at hg
  subst hg
  cases h2
  refine op_notN pins s σ H _ _ _ _ Q I r1 r2 ⟨rfl, ?_⟩
  have q := k.rf w (.bl _)
  cases h1 <;> simpa using q
/-! ### one value -/
def UnV (X : Cx) (P : Par) (f : Value → Sem Value) (g : D → Option D) (m : Md) : Prop :=
  UnR X f fun v1 H Q => ∃ B G F es x z, World P B G F es H ∧ Vw P H F v1 x ∧ g x = some z ∧ Res P B G F es m z Q
def negD : D → Option D
  | .int i => some (.int (-i))
  | _ => none
theorem negV : UnV X P (unaryOp .USub) negD .frz := by
  intro pins s σ H v1 u1 Q I r1 h
  obtain ⟨B, G, F, es, x, z, w, h1, hg, k⟩ := h
  cases h1 <;> simp only [negD, reduceCtorEq, Option.some.injEq] at hg
  subst hg
  exact un_neg pins s σ H _ _ Q I r1 ⟨_, rfl, k.rf w (.int _)⟩
end
end Z

set_option maxRecDepth 100000
set_option maxHeartbeats 1000000
namespace Z
open PySem PySem.Spec PyProof.Rows L2
section
variable {X : Cx} {P : Par}
/-! ### data read off the heap, dicts too -/
section
variable {pins : List (Addr × Obj)} {σ : L2.St} {H : Hp} {F : Addr → Prop} {s : Shared}
theorem noSys (I : Inv X pins σ H s) (hs : ∃ o, X.base.get? sysModules = some o) {a : Addr} {o : HO} (e : H a = some o) : a ≠ sysModules := fun z => by
  obtain ⟨o', h⟩ := hs
  have := (I.bs _ _ h).2
  rw [← z, e] at this; cases this
theorem reads_kD {h : Heap} {k : Key} {u : Value} (r : keyIs k u = true) : Reads h u (kD k) [] := by
  rcases keyIs_shape r with ⟨i, t, rfl, rfl⟩ | ⟨x, t, rfl, rfl⟩
  · exact .int i t
  · exact .str x t
theorem rf_keys : ∀ (ks : List Key), RFs P H F (ks.map kV) (ks.map kD)
  | [] => .nil
  | .inl i :: r => .cons (.int i) (rf_keys r)
  | .inr x :: r => .cons (.str x) (rf_keys r)
theorem reads_keys {h : Heap} : ∀ {ks : List Key} {us : List Value}, Paired (fun k u => keyIs k u = true) ks us → ReadsAll h us (ks.map kD) []
  | _, _, .nil => .nil
  | _, _, .cons a r => ReadsAll.cons (as := []) (bs := []) (reads_kD a) (reads_keys r)
mutual
theorem RF.reads (hK : X.K = P.K) (hs : ∃ o, X.base.get? sysModules = some o) (I : Inv X pins σ H s) : ∀ {v : V} {d : D} {u : Value}, RF P H F v d → RelV v u → ∃ as, Reads s.heap u d as ∧ sysModules ∉ as
  | _, _, _, .non, r => by cases r; exact ⟨_, .none, List.not_mem_nil⟩
  | _, _, _, .bl b, r => by cases r; exact ⟨_, .bool b, List.not_mem_nil⟩
  | _, _, _, .int i, r => by obtain ⟨t, rfl⟩ := r; exact ⟨_, .int i t, List.not_mem_nil⟩
  | _, _, _, .str x, r => by obtain ⟨t, rfl⟩ := r; exact ⟨_, .str x t, List.not_mem_nil⟩
  | _, _, _, .tup q rs, r => by
    cases r
    obtain ⟨its, rv, ⟨o, ho, hc, n, hd⟩, _⟩ := I.tuple (hK ▸ q)
    obtain ⟨as, hr, ns⟩ := RFs.reads hK hs I rs rv
    exact ⟨_, .tuple ho hc hd hr, ns⟩
  | _, _, _, .lst _ e rs, r => by
    cases r
    obtain ⟨its, rv, ⟨o, n, ho, hc, _, hd⟩, _⟩ := I.list (SqL.of e)
    obtain ⟨as, hr, ns⟩ := RFs.reads hK hs I rs rv
    exact ⟨_, .list ho hc hd hr, fun z => (List.mem_cons.mp z).elim (fun z => noSys I hs e z.symm) ns⟩
  | _, _, _, .dK _ e rs, r => by
    cases r
    obtain ⟨z1, z2, vs, kv, o, es, ep, ho, hx, hd, hko, hps, nd⟩ := I.hok _ _ e
    obtain ⟨bs, h1, h2, n2⟩ := RFk.reads hK hs I rs kv hps
    refine ⟨_, .dict ho hx.1 hd h1 h2, fun z => ?_⟩
    rcases List.mem_append.mp z with z | z
    · rcases List.mem_cons.mp z with z | z
      · exact noSys I hs e z.symm
      · cases z
    · exact n2 z
  | _, _, _, .dT _ e rs, r => by
    cases r
    obtain ⟨z1, z2, xs, kv, o, es, ep, ho, hx, hd, he, nd⟩ := I.hok _ _ e
    obtain ⟨as, bs, h1, n1, h2, n2⟩ := RFt.reads hK hs I rs kv
    rw [show (xs.map fun x => Value.ref x.2.1) = es.toList.map (·.key) by rw [he, List.map_map]; rfl] at h1
    rw [show (xs.map fun x => x.2.2) = es.toList.map (·.val) by rw [he, List.map_map]; rfl] at h2
    refine ⟨_, .dict ho hx.1 hd h1 h2, fun z => ?_⟩
    rcases List.mem_append.mp z with z | z
    · rcases List.mem_cons.mp z with z | z
      · exact noSys I hs e z.symm
      · exact n1 z
    · exact n2 z
theorem RFs.reads (hK : X.K = P.K) (hs : ∃ o, X.base.get? sysModules = some o) (I : Inv X pins σ H s) : ∀ {vs : List V} {ds : List D} {us : List Value}, RFs P H F vs ds → Vals vs us → ∃ as, ReadsAll s.heap us ds as ∧ sysModules ∉ as
  | _, _, _, .nil, r => by cases r; exact ⟨_, .nil, List.not_mem_nil⟩
  | _, _, _, .cons a rs, r => by
    cases r with
    | cons r1 r2 =>
      obtain ⟨as, h1, n1⟩ := RF.reads hK hs I a r1
      obtain ⟨bs, h2, n2⟩ := RFs.reads hK hs I rs r2
      exact ⟨_, .cons h1 h2, fun z => (List.mem_append.mp z).elim n1 n2⟩
theorem RFk.reads (hK : X.K = P.K) (hs : ∃ o, X.base.get? sysModules = some o) (I : Inv X pins σ H s) : ∀ {kvs : List (Key × V)} {ds : List (D × D)} {vs : List (Key × Value)} {es : List DictEntry}, RFk P H F kvs ds → KV kvs vs → Pairs (mixKind X.prog X.w) es vs →
    ∃ bs, ReadsAll s.heap (es.map (·.key)) (ds.map (·.1)) [] ∧ ReadsAll s.heap (es.map (·.val)) (ds.map (·.2)) bs ∧ sysModules ∉ bs
  | _, _, _, _, .nil, r, p => by
    cases r
    cases p
    exact ⟨_, .nil, .nil, List.not_mem_nil⟩
  | _, _, _, _, .cons a rs, r, p => by
    cases r with
    | cons r1 r2 =>
      cases p with
      | cons p1 p2 p3 =>
        obtain ⟨as, h1, n1⟩ := RF.reads hK hs I a r1.2
        obtain ⟨bs, h2, h3, n2⟩ := RFk.reads hK hs I rs r2 p3
        have k1 := p1
        rw [← r1.1] at k1
        rw [← p2] at h1
        exact ⟨_, ReadsAll.cons (as := []) (bs := []) (reads_kD k1) h2, .cons h1 h3, fun z => (List.mem_append.mp z).elim n1 n2⟩
theorem RFt.reads (hK : X.K = P.K) (hs : ∃ o, X.base.get? sysModules = some o) (I : Inv X pins σ H s) : ∀ {kvs : List (List Key × V)} {ds : List (D × D)} {xs : List (List Key × Addr × Value)}, RFt P H F kvs ds →
    Paired (fun (p : List Key × V) (q : List Key × Addr × Value) => p.1 = q.1 ∧ H q.2.1 = some (.tup (p.1.map kV)) ∧ RelV p.2 q.2.2) kvs xs →
    ∃ as bs, ReadsAll s.heap (xs.map fun x => Value.ref x.2.1) (ds.map (·.1)) as ∧ sysModules ∉ as ∧ ReadsAll s.heap (xs.map fun x => x.2.2) (ds.map (·.2)) bs ∧ sysModules ∉ bs
  | _, _, _, .nil, r => by
    cases r
    exact ⟨_, _, .nil, List.not_mem_nil, .nil, List.not_mem_nil⟩
  | _, _, _, .cons (k := k) a rs, r => by
    cases r with
    | cons r1 r2 =>
      obtain ⟨e1, e2, e3⟩ := r1
      obtain ⟨as, h1, n1⟩ := RF.reads hK hs I a e3
      obtain ⟨cs, bs, h2, n2, h3, n3⟩ := RFt.reads hK hs I rs r2
      obtain ⟨its, rv, ⟨o, ho, hc, n, hd⟩, _⟩ := I.tuple (SqT.of e2)
      obtain ⟨ks, hk, nk⟩ := keysR I k rv
      exact ⟨_, _, .cons (.tuple ho hc hd hk) h2, fun z => (List.mem_append.mp z).elim nk n2, .cons h1 h3, fun z => (List.mem_append.mp z).elim n1 n3⟩
theorem keysR (I : Inv X pins σ H s) : ∀ (k : List Key) {us : List Value}, Vals (k.map kV) us → ∃ as, ReadsAll s.heap us (k.map kD) as ∧ sysModules ∉ as
  | [], _, r => by cases r; exact ⟨_, .nil, List.not_mem_nil⟩
  | .inl i :: k, _, r => by
    cases r with
    | cons r1 r2 =>
      obtain ⟨t, rfl⟩ := r1
      obtain ⟨as, h, n⟩ := keysR I k r2
      exact ⟨_, ReadsAll.cons (as := []) (.int i t) h, by simpa using n⟩
  | .inr x :: k, _, r => by
    cases r with
    | cons r1 r2 =>
      obtain ⟨t, rfl⟩ := r1
      obtain ⟨as, h, n⟩ := keysR I k r2
      exact ⟨_, ReadsAll.cons (as := []) (.str x t) h, by simpa using n⟩
end
theorem Vw.reads (hK : X.K = P.K) (hs : ∃ o, X.base.get? sysModules = some o) (I : Inv X pins σ H s) {v : V} {d : D} {u : Value} (h : Vw P H F v d) (r : RelV v u) : ∃ as, Reads s.heap u d as ∧ sysModules ∉ as := by
  have all : ∀ {F' : Addr → Prop}, (∀ a, F a → F' a) → RF P H F' v d → ∃ as, Reads s.heap u d as ∧ sysModules ∉ as := fun hF q => q.reads hK hs I r
  cases h with
  | non => exact all (F' := F) (fun _ z => z) .non
  | bl b => exact all (F' := F) (fun _ z => z) (.bl b)
  | int i => exact all (F' := F) (fun _ z => z) (.int i)
  | str x => exact all (F' := F) (fun _ z => z) (.str x)
  | tup q rs => exact all (F' := F) (fun _ z => z) (.tup q rs)
  | @lst a vs ds e rs => exact all (F' := fun b => F b ∨ b = a) (fun _ z => .inl z) (.lst (.inr rfl) e (rs.stay .refl fun _ z => .inl z))
  | @dK a kvs ds e rs => exact all (F' := fun b => F b ∨ b = a) (fun _ z => .inl z) (.dK (.inr rfl) e (rs.stay .refl fun _ z => .inl z))
  | @dT a kvs ds e rs => exact all (F' := fun b => F b ∨ b = a) (fun _ z => .inl z) (.dT (.inr rfl) e (rs.stay .refl fun _ z => .inl z))
end

/-! ### built-in functions -/
inductive Vws (P : Par) (H : Hp) (F : Addr → Prop) : List V → List D → Prop
  | nil : Vws P H F [] []
  | cons {v : V} {vs : List V} {d : D} {ds : List D} : Vw P H F v d → Vws P H F vs ds → Vws P H F (v :: vs) (d :: ds)
def CallV (X : Cx) (P : Par) (f : Value) (g : List D → Option D) (m : Md) : Prop :=
  CallR X f fun vs H Q => ∃ B G F es xs z, World P B G F es H ∧ Vws P H F vs xs ∧ g xs = some z ∧ Res P B G F es m z Q
theorem Vws.one {H : Hp} {F : Addr → Prop} {vs : List V} {x : D} (h : Vws P H F vs [x]) : ∃ v, vs = [v] ∧ Vw P H F v x := by
  cases h with
  | cons a r => cases r; exact ⟨_, rfl, a⟩
theorem Vws.two {H : Hp} {F : Addr → Prop} {vs : List V} {x y : D} (h : Vws P H F vs [x, y]) : ∃ v w, vs = [v, w] ∧ Vw P H F v x ∧ Vw P H F w y := by
  cases h with
  | cons a r => obtain ⟨w, rfl, b⟩ := r.one; exact ⟨_, _, rfl, a, b⟩
def one (g : D → Option D) : List D → Option D
  | [x] => g x
  | _ => none
theorem one_some {g : D → Option D} {xs : List D} {z : D} (h : one g xs = some z) : ∃ x, xs = [x] ∧ g x = some z := by
  cases xs with
  | nil => cases h
  | cons x r => cases r with
    | nil => exact ⟨x, rfl, h⟩
    | cons => cases h
/-- repr -/
def reprD (d : D) : Option D := if d.showable = true ∧ d.depth ≤ 64 ∧ d.shown.length ≤ sizeLine then some (.str d.shown) else none
theorem reprV (hK : X.K = P.K) (hs : ∃ o, X.base.get? sysModules = some o) (hg : X.A.guards = some []) (hu : X.A.units + 66 < cLine) : CallV X P (.builtin "repr") (one reprD) .frz := by
  intro pins s σ H vs us Q I r h
  obtain ⟨B, G, F, es, xs, z, w, h1, h2, k⟩ := h
  obtain ⟨x, rfl, h3⟩ := one_some h2
  obtain ⟨v, rfl, hv⟩ := h1.one
  unfold reprD at h3
  split at h3
  · rename_i c
    cases h3
    obtain ⟨u, rfl, r1⟩ := vals1 r
    obtain ⟨as, rd, ns⟩ := hv.reads hK hs I r1
    have fin : ∀ {h' : Heap} {t : Tok} {tk : Nat}, (∀ b o, s.heap.get? b = some o → h'.get? b = some o) → EP X pins σ Q (.str x.shown t) { s with heap := h', toks := tk } := fun {h' t tk} kk => ⟨.str _, H, I.kept kk, ⟨_, rfl⟩, k.rf w (.str _)⟩
    cases rd with
    | none => exact PySem.P.repr_of_none (by simpa only [PyData.shown] using fin (fun _ _ z => z))
    | bool b => exact PySem.P.repr_of_bool (by simpa only [PyData.shown] using fin (fun _ _ z => z))
    | int i t => exact PySem.P.repr_of_int (by simpa [PyData.showable] using c.1) (by simpa only [PyData.shown] using fin (fun _ _ z => z))
    | str y t => exact PySem.P.repr_of_str (by simpa only [PyData.shown] using fin (fun _ _ z => z)) (by simpa only [PyData.shown] using c.2.2)
    | list a1 a2 a3 a4 => exact repr_of_reads' (.list a1 a2 a3 a4) c.1 (fun _ => ns) hg (by have := c.2.1; omega) (fun _ _ z => z) (fun h' u tk kk => fin kk) c.2.2
    | tuple a1 a2 a3 a4 => exact repr_of_reads' (.tuple a1 a2 a3 a4) c.1 (fun _ => ns) hg (by have := c.2.1; omega) (fun _ _ z => z) (fun h' u tk kk => fin kk) c.2.2
    | dict a1 a2 a3 a4 a5 => exact repr_of_reads' (.dict a1 a2 a3 a4 a5) c.1 (fun _ => ns) hg (by have := c.2.1; omega) (fun _ _ z => z) (fun h' u tk kk => fin kk) c.2.2
  · cases h3
end
end Z

set_option maxRecDepth 100000
set_option maxHeartbeats 1000000
namespace Z
open PySem PySem.Spec PyProof.Rows L2
section
variable {X : Cx} {P : Par}
/-- a built-in function of one value -/
theorem call1 {f : Value} {g : D → Option D} {m : Md} (h : ∀ (pins : List (Addr × Obj)) (s : Shared) (σ : L2.St) (H : Hp) (v : V) (us : List Value) (Q : VK) (B : Hp) (G F : Addr → Prop) (es : List Ent) (x z : D), Inv X pins σ H s → Vals [v] us →
    World P B G F es H → Vw P H F v x → g x = some z → Res P B G F es m z Q → wpAny (model X.prog X.w) X.A (call f us) (EP X pins σ Q) X.xe s) : CallV X P f (one g) m := by
  intro pins s σ H vs us Q I r hh
  obtain ⟨B, G, F, es, xs, z, w, h1, h2, k⟩ := hh
  obtain ⟨x, rfl, h3⟩ := one_some h2
  obtain ⟨v, rfl, hv⟩ := h1.one
  exact h pins s σ H v us Q B G F es x z I r w hv h3 k
def two (g : D → D → Option D) : List D → Option D
  | [x, y] => g x y
  | _ => none
theorem two_some {g : D → D → Option D} {xs : List D} {z : D} (h : two g xs = some z) : ∃ x y, xs = [x, y] ∧ g x y = some z := by
  match xs, h with
  | [x, y], h => exact ⟨x, y, rfl, h⟩
theorem call2 {f : Value} {g : D → D → Option D} {m : Md} (h : ∀ (pins : List (Addr × Obj)) (s : Shared) (σ : L2.St) (H : Hp) (v v2 : V) (us : List Value) (Q : VK) (B : Hp) (G F : Addr → Prop) (es : List Ent) (x y z : D), Inv X pins σ H s → Vals [v, v2] us →
    World P B G F es H → Vw P H F v x → Vw P H F v2 y → g x y = some z → Res P B G F es m z Q → wpAny (model X.prog X.w) X.A (call f us) (EP X pins σ Q) X.xe s) : CallV X P f (two g) m := by
  intro pins s σ H vs us Q I r hh
  obtain ⟨B, G, F, es, xs, z, w, h1, h2, k⟩ := hh
  obtain ⟨x, y, rfl, h3⟩ := two_some h2
  obtain ⟨v, v2, rfl, hv, hv2⟩ := h1.two
  exact h pins s σ H v v2 us Q B G F es x y z I r w hv hv2 h3 k
def lenD : D → Option D
  | .str x => if x.length ≤ sizeLine then some (.int x.length) else none
  | .list xs => some (.int xs.length)
  | .tuple xs => some (.int xs.length)
  | .dict kvs => some (.int kvs.length)
  | _ => none
theorem RFk.length {H : Hp} {F : Addr → Prop} : ∀ {vs : List (Key × V)} {ds : List (D × D)}, RFk P H F vs ds → vs.length = ds.length
  | _, _, .nil => rfl
  | _, _, .cons _ r => by simp [RFk.length r]
theorem RFt.length {H : Hp} {F : Addr → Prop} : ∀ {vs : List (List Key × V)} {ds : List (D × D)}, RFt P H F vs ds → vs.length = ds.length
  | _, _, .nil => rfl
  | _, _, .cons _ r => by simp [RFt.length r]
theorem lenV (hK : X.K = P.K) : CallV X P (.builtin "len") (one lenD) .frz := call1 fun pins s σ H v us Q B G F es x z I r w hv hg k => by
  cases hv <;> simp only [lenD, reduceCtorEq, Option.some.injEq] at hg
  · split at hg
    · cases hg
      exact call_len_str pins s σ H _ us Q I r ⟨_, rfl, by assumption, k.rf w (.int _)⟩
    · cases hg
  · subst hg
    rename_i a vs ds s1 q1
    exact call_len_seq pins s σ H _ us Q I r ⟨_, vs, rfl, .inr (hK ▸ s1), by rw [q1.length]; exact k.rf w (.int _)⟩
  · subst hg
    rename_i a vs ds s1 q1
    exact call_len_seq pins s σ H _ us Q I r ⟨_, vs, rfl, .inl (SqL.of s1), by rw [q1.length]; exact k.rf w (.int _)⟩
  · subst hg
    rename_i a kvs ds s1 q1
    exact call_lenD pins s σ H _ us Q I r ⟨_, kvs, rfl, s1, by rw [q1.length]; exact k.rf w (.int _)⟩
  · subst hg
    rename_i a kvs ds s1 q1
    exact call_len_dT pins s σ H _ us Q I r ⟨_, kvs, rfl, s1, by rw [q1.length]; exact k.rf w (.int _)⟩
def listD : D → Option D
  | .list xs => some (.list xs)
  | .tuple xs => some (.list xs)
  | _ => none
theorem listV (hK : X.K = P.K) : CallV X P (.type "list") (one listD) (.lst .frz) := call1 fun pins s σ H v us Q B G F es x z I r w hv hg k => by
  cases hv <;> simp only [listD, reduceCtorEq, Option.some.injEq] at hg <;> subst hg
  · rename_i a vs ds s1 q1
    exact call_list_of pins s σ H _ us Q I r ⟨_, vs, rfl, .inr (hK ▸ s1), fun p hp => k _ _ F (w.lst0 q1 hp) fun _ z => z⟩
  · rename_i a vs ds s1 q1
    exact call_list_of pins s σ H _ us Q I r ⟨_, vs, rfl, .inl (SqL.of s1), fun p hp => k _ _ F (w.lst0 q1 hp) fun _ z => z⟩
def tupleD : D → Option D
  | .list xs => some (.tuple xs)
  | .tuple xs => some (.tuple xs)
  | _ => none
theorem tupleV (hK : X.K = P.K) : CallV X P (.type "tuple") (one tupleD) .frz := call1 fun pins s σ H v us Q B G F es x z I r w hv hg k => by
  cases hv <;> simp only [tupleD, reduceCtorEq, Option.some.injEq] at hg <;> subst hg
  · rename_i a vs ds s1 q1
    exact call_tuple_of pins s σ H _ us Q I r ⟨_, vs, rfl, .inr ⟨hK ▸ s1, k.rf w (.tup s1 q1)⟩⟩
  · rename_i a vs ds s1 q1
    exact call_tuple_of pins s σ H _ us Q I r ⟨_, vs, rfl, .inl ⟨SqL.of s1, fun p hp => k _ _ F (w.tup hp q1) fun _ z => z⟩⟩
def absD : D → Option D
  | .int i => some (.int (if i < 0 then -i else i))
  | _ => none
theorem absV : CallV X P (.builtin "abs") (one absD) .frz := call1 fun pins s σ H v us Q B G F es x z I r w hv hg k => by
  cases hv <;> simp only [absD, reduceCtorEq, Option.some.injEq] at hg
  subst hg
  exact call_abs pins s σ H _ us Q I r ⟨_, rfl, k.rf w (.int _)⟩
def intOfD : D → Option D
  | .int i => some (.int i)
  | .bool b => some (.int (if b then 1 else 0))
  | _ => none
theorem intOfV : CallV X P (.type "int") (one intOfD) .frz := call1 fun pins s σ H v us Q B G F es x z I r w hv hg k => by
  cases hv <;> simp only [intOfD, reduceCtorEq, Option.some.injEq] at hg <;> subst hg
  · exact call_int1 pins s σ H _ us Q I r (.inr ⟨_, rfl, k.rf w (.int _)⟩)
  · exact call_int1 pins s σ H _ us Q I r (.inl ⟨_, rfl, k.rf w (.int _)⟩)
def strD : D → Option D
  | .int i => if i.natAbs.log2 < 1920 then some (.str (toString i)) else none
  | _ => none
theorem strV : CallV X P (.type "str") (one strD) .frz := call1 fun pins s σ H v us Q B G F es x z I r w hv hg k => by
  cases hv <;> simp only [strD, reduceCtorEq] at hg
  split at hg
  · cases hg
    exact call_str_int pins s σ H _ us Q I r ⟨_, rfl, by assumption, k.rf w (.str _)⟩
  · cases hg
def sumD : D → Option D
  | .list xs => (intsOf xs).map fun ns => .int ns.sum
  | _ => none
theorem sumV (hc : X.calm = true) : CallV X P (.builtin "sum") (one sumD) .frz := call1 fun pins s σ H v us Q B G F es x z I r w hv hg k => by
  cases hv <;> simp only [sumD, reduceCtorEq, Option.map_eq_some_iff] at hg
  rename_i a vs ds s1 q1
  obtain ⟨ns, e, rfl⟩ := hg
  rw [intsOf_some e] at q1
  rw [q1.ints] at s1
  exact cr_sum hc pins s σ H _ us Q I r ⟨_, ns, rfl, SqL.of s1, k.rf w (.int _)⟩
def boolsOf : List D → Option (List Bool)
  | [] => some []
  | .bool i :: r => (boolsOf r).map (i :: ·)
  | _ :: _ => none
theorem boolsOf_some : ∀ {ds : List D} {ns : List Bool}, boolsOf ds = some ns → ds = ns.map PyData.bool
  | [], _, h => by cases h; rfl
  | .bool i :: r, ns, h => by
    simp only [boolsOf, Option.map_eq_some_iff] at h
    obtain ⟨l, e, rfl⟩ := h
    rw [boolsOf_some e]; rfl
  | .none :: _, _, h => by cases h
  | .int _ :: _, _, h => by cases h
  | .str _ :: _, _, h => by cases h
  | .list _ :: _, _, h => by cases h
  | .tuple _ :: _, _, h => by cases h
  | .dict _ :: _, _, h => by cases h
@[simp] theorem boolsOf_map (ns : List Bool) : boolsOf (ns.map PyData.bool) = some ns := by
  induction ns with
  | nil => rfl
  | cons a l ih => simp [boolsOf, ih]
theorem RFs.bools {H : Hp} {F : Addr → Prop} : ∀ {ns : List Bool} {vs : List V}, RFs P H F vs (ns.map PyData.bool) → vs = ns.map V.bl
  | [], _, h => by cases h; rfl
  | n :: ns, _, h => by
    cases h with
    | cons a r => cases a; rw [RFs.bools r]; rfl
def allD : D → Option D
  | .list xs => (boolsOf xs).map fun ns => .bool (ns.all id)
  | _ => none
theorem allV (hc : X.calm = true) : CallV X P (.builtin "all") (one allD) .frz := call1 fun pins s σ H v us Q B G F es x z I r w hv hg k => by
  cases hv <;> simp only [allD, reduceCtorEq, Option.map_eq_some_iff] at hg
  rename_i a vs ds s1 q1
  obtain ⟨ns, e, rfl⟩ := hg
  rw [boolsOf_some e] at q1
  rw [q1.bools] at s1
  exact cr_all hc pins s σ H _ us Q I r ⟨_, ns, rfl, SqL.of s1, k.rf w (.bl _)⟩
def anyD : D → Option D
  | .list xs => (boolsOf xs).map fun ns => .bool (ns.any id)
  | _ => none
theorem anyV (hc : X.calm = true) : CallV X P (.builtin "any") (one anyD) .frz := call1 fun pins s σ H v us Q B G F es x z I r w hv hg k => by
  cases hv <;> simp only [anyD, reduceCtorEq, Option.map_eq_some_iff] at hg
  rename_i a vs ds s1 q1
  obtain ⟨ns, e, rfl⟩ := hg
  rw [boolsOf_some e] at q1
  rw [q1.bools] at s1
  exact cr_any hc pins s σ H _ us Q I r ⟨_, ns, rfl, SqL.of s1, k.rf w (.bl _)⟩
def max2D : D → D → Option D
  | .int i, .int j => some (.int (if j > i then j else i))
  | _, _ => none
theorem max2V (hc : X.calm = true) : CallV X P (.builtin "max") (two max2D) .frz := call2 fun pins s σ H v v2 us Q B G F es x y z I r w hv hv2 hg k => by
  cases hv <;> cases hv2 <;> simp only [max2D, reduceCtorEq, Option.some.injEq] at hg
  subst hg
  exact call_max2 hc pins s σ H _ us Q I r ⟨_, _, rfl, k.rf w (.int _)⟩
def min2D : D → D → Option D
  | .int i, .int j => some (.int (if j < i then j else i))
  | _, _ => none
theorem min2V (hc : X.calm = true) : CallV X P (.builtin "min") (two min2D) .frz := call2 fun pins s σ H v v2 us Q B G F es x y z I r w hv hv2 hg k => by
  cases hv <;> cases hv2 <;> simp only [min2D, reduceCtorEq, Option.some.injEq] at hg
  subst hg
  exact call_min2 hc pins s σ H _ us Q I r ⟨_, _, rfl, k.rf w (.int _)⟩
/-- insertion -/
def insI (a : Int) : List Int → List Int
  | [] => [a]
  | b :: l => if a ≤ b then a :: b :: l else b :: insI a l
def sortI (l : List Int) : List Int := l.foldr insI []
theorem insI_perm (a : Int) : ∀ l, (insI a l).Perm (a :: l)
  | [] => .refl _
  | b :: l => by
    unfold insI
    split
    · exact .refl _
    · exact ((insI_perm a l).cons b).trans (.swap _ _ _)
theorem sortI_perm : ∀ l, (sortI l).Perm l
  | [] => .refl _
  | a :: l => (insI_perm a _).trans ((sortI_perm l).cons a)
theorem insI_sorted (a : Int) : ∀ {l}, l.Pairwise (· ≤ ·) → (insI a l).Pairwise (· ≤ ·)
  | [], _ => List.pairwise_singleton _ _
  | b :: l, h => by
    unfold insI
    split
    · rename_i c
      refine List.pairwise_cons.mpr ⟨fun x hx => ?_, h⟩
      rcases List.mem_cons.mp hx with rfl | hx
      · exact c
      · exact Int.le_trans c ((List.pairwise_cons.mp h).1 x hx)
    · rename_i c
      refine List.pairwise_cons.mpr ⟨fun x hx => ?_, insI_sorted a (List.pairwise_cons.mp h).2⟩
      rcases List.mem_cons.mp ((insI_perm a l).mem_iff.mp hx) with rfl | hx
      · omega
      · exact (List.pairwise_cons.mp h).1 x hx
theorem sortI_sorted : ∀ l, (sortI l).Pairwise (· ≤ ·)
  | [] => .nil
  | a :: l => insI_sorted a (sortI_sorted l)
theorem sorted_unique : ∀ {l m : List Int}, l.Perm m → l.Pairwise (· ≤ ·) → m.Pairwise (· ≤ ·) → l = m
  | [], m, p, _, _ => (List.nil_perm.mp p).symm
  | a :: l, [], p, _, _ => absurd (List.perm_nil.mp p) (by simp)
  | a :: l, b :: m, p, h1, h2 => by
    have e : a = b := by
      have q1 : b ∈ a :: l := p.mem_iff.mpr List.mem_cons_self
      have q2 : a ∈ b :: m := p.mem_iff.mp List.mem_cons_self
      have r1 : a ≤ b := (List.mem_cons.mp q1).elim (fun z => by omega) fun z => (List.pairwise_cons.mp h1).1 b z
      have r2 : b ≤ a := (List.mem_cons.mp q2).elim (fun z => by omega) fun z => (List.pairwise_cons.mp h2).1 a z
      omega
    subst e
    rw [sorted_unique (List.perm_cons a |>.mp p) (List.pairwise_cons.mp h1).2 (List.pairwise_cons.mp h2).2]
def sortedD : D → Option D
  | .list xs => (intsOf xs).map fun ns => .list ((sortI ns).map .int)
  | _ => none
theorem sortedV : CallV X P (.builtin "sorted") (one sortedD) (.lst .frz) := call1 fun pins s σ H v us Q B G F es x z I r w hv hg k => by
  cases hv <;> simp only [sortedD, reduceCtorEq, Option.map_eq_some_iff] at hg
  rename_i a vs ds s1 q1
  obtain ⟨ns, e, rfl⟩ := hg
  rw [intsOf_some e] at q1
  rw [q1.ints] at s1
  refine cr_sortedI pins s σ H _ us Q I r ⟨_, ns, rfl, SqL.of s1, fun ns' p hp hs hn => ?_⟩
  rw [sorted_unique (hp.trans (sortI_perm ns).symm) hs (sortI_sorted ns)]
  exact k _ _ F (w.lst0 (RFs.of_ints _) hn) fun _ z => z
end
end Z

set_option maxRecDepth 100000
set_option maxHeartbeats 1000000
namespace Z
open PySem PySem.Spec PyProof.Rows L2

/-! ### what the errors are -/
structure Par2 extends Par where
  ec : Nat → Addr
  ef : Nat → List Str
def ExcAt (P : Par2) (H : Hp) (F : Addr → Prop) (c : Nat) (xs : List D) (cls : Value) (dx : Option Addr) : Prop :=
  cls = .ref (P.ec c) ∧ (xs ≠ [] → ∃ d vs, dx = some d ∧ H d = some (.xd ((P.ef c).zip vs)) ∧ RFs P.toPar H F vs xs)

/-! ### the state: slots, temporaries -/
def slots : List Md → List D → L2.St → List Ent
  | [], _, _ => []
  | m :: M, ρ, σ => (m, ρ.headD .none, σ.headD none) :: slots M ρ.tail σ.tail
structure Stt (P : Par2) (B : Hp) (G F : Addr → Prop) (pv : List (Nat × V)) (M : List Md) (ρ : Env') (σ : L2.St) (ts : List Ent) (H : Hp) : Prop where
  w : World P.toPar B G F (ts ++ slots M ρ σ) H
  lr : ρ.length = M.length
  ls : σ.length = M.length
  pv : ∀ p ∈ pv, σ[p.1]? = some (some p.2)
theorem slots_get : ∀ {M : List Md} {ρ : Env'} {σ : L2.St} {i : Nat} {m : Md}, M[i]? = some m → ρ.length = M.length → σ.length = M.length → (m, ρ.getD i .none, (σ.getD i none)) ∈ slots M ρ σ
  | [], _, _, _, _, h, _, _ => by simp at h
  | m :: M, d :: ρ, v :: σ, 0, _, h, _, _ => by simp at h; subst h; exact List.mem_cons_self
  | m :: M, d :: ρ, v :: σ, i + 1, _, h, h1, h2 => List.mem_cons_of_mem _ (slots_get (M := M) (ρ := ρ) (σ := σ) (i := i) (by simpa using h) (by simpa using h1) (by simpa using h2))
  | _ :: _, [], _, _, _, _, h, _ => by simp at h
  | _ :: _, _ :: _, [], _, _, _, _, h => by simp at h
/-- one slot apart -/
theorem slots_cut : ∀ {M : List Md} {ρ : Env'} {σ : L2.St} {i : Nat} {m : Md}, M[i]? = some m → ρ.length = M.length → σ.length = M.length →
    ∃ l1 l2, slots M ρ σ = l1 ++ (m, ρ.getD i .none, σ.getD i none) :: l2 ∧ ∀ m' d v, slots (M.set i m') (ρ.set i d) (σ.set i v) = l1 ++ (m', d, v) :: l2
  | [], _, _, _, _, h, _, _ => by simp at h
  | m :: M, d :: ρ, v :: σ, 0, _, h, _, _ => by
    simp at h; subst h
    exact ⟨[], slots M ρ σ, rfl, fun _ _ _ => rfl⟩
  | m :: M, d :: ρ, v :: σ, i + 1, _, h, h1, h2 => by
    obtain ⟨l1, l2, e1, e2⟩ := slots_cut (M := M) (ρ := ρ) (σ := σ) (i := i) (by simpa using h) (by simpa using h1) (by simpa using h2)
    refine ⟨(m, d, v) :: l1, l2, ?_, fun m' d' v' => ?_⟩
    · show (m, d, v) :: slots M ρ σ = _
      rw [e1]; rfl
    · show (m, d, v) :: slots (M.set i m') (ρ.set i d') (σ.set i v') = _
      rw [e2]; rfl
  | _ :: _, [], _, _, _, _, h, _ => by simp at h
  | _ :: _, _ :: _, [], _, _, _, _, h => by simp at h
section
variable {P : Par2} {B H H' : Hp} {G F F' : Addr → Prop} {pv : List (Nat × V)} {M : List Md} {ρ ρ' : Env'} {σ : L2.St} {ts : List Ent}
theorem Stt.to (s : Stt P B G F pv M ρ σ ts H) {ts' : List Ent} (w : World P.toPar B G F' (ts' ++ slots M ρ σ) H') : Stt P B G F' pv M ρ σ ts' H' := ⟨w, s.lr, s.ls, s.pv⟩
theorem Stt.drop1 {e : Ent} (s : Stt P B G F pv M ρ σ (e :: ts) H) : Stt P B G F pv M ρ σ ts H := s.to s.w.drop1
theorem Stt.drop2 {e f : Ent} (s : Stt P B G F pv M ρ σ (e :: f :: ts) H) : Stt P B G F pv M ρ σ (e :: ts) H := s.to s.w.drop2
theorem Stt.dropL {us : List Ent} (s : Stt P B G F pv M ρ σ (us ++ ts) H) : Stt P B G F pv M ρ σ ts H := s.to (World.drop (ts := us) (by simpa using s.w))
theorem Stt.dropM {e : Ent} {us : List Ent} (s : Stt P B G F pv M ρ σ (e :: (us ++ ts)) H) : Stt P B G F pv M ρ σ (e :: ts) H := s.to (World.dropN (ts := us) (by simpa using s.w))
theorem Stt.push {v : V} {d : D} (s : Stt P B G F pv M ρ σ ts H) (r : RF P.toPar H F v d) : Stt P B G F pv M ρ σ ((.frz, d, some v) :: ts) H := s.to (s.w.push r)
/-- what the slot holds -/
theorem Stt.slot {i : Nat} {m : Md} (s : Stt P B G F pv M ρ σ ts H) (h : M[i]? = some m) (hm : m ≠ .dead) : ∃ v, σ[i]? = some (some v) ∧ (m, ρ.getD i .none, some v) ∈ ts ++ slots M ρ σ := by
  have q := slots_get h s.lr s.ls
  obtain ⟨v, e, _⟩ := s.w.mem (List.mem_append_right _ q) hm
  have hi : i < σ.length := by
    rw [s.ls]
    exact (List.getElem?_eq_some_iff.mp h).1
  rw [e] at q
  refine ⟨v, ?_, List.mem_append_right _ q⟩
  rw [List.getD_eq_getElem?_getD, List.getElem?_eq_getElem hi] at e
  rw [List.getElem?_eq_getElem hi]
  exact congrArg some e
end

/-! ### operands -/
inductive Om where
  | tm (m : Md) | sl (i : Nat)
def Om.ent : Om → D → V → List Ent
  | .tm m, d, v => [(m, d, some v)]
  | .sl _, _, _ => []
def Om.hold : Om → L2.St → V → Prop
  | .tm _, _, _ => True
  | .sl i, σ, v => σ[i]? = some (some v)
def Om.flat (M : List Md) : Om → Bool
  | .tm m => m.flat
  | .sl i => (M.getD i .dead).flat
abbrev Fn' := Env' → R (D × Env')
def rdVar (i : Nat) : Fn' := fun ρ => .ok (ρ.getD i .none, ρ)
def PureF (f : Fn') : Prop := ∀ ρ d ρ', f ρ = .ok (d, ρ') → ρ' = ρ
/-- behind an expression -/
def Post (P : Par2) (B : Hp) (G F : Addr → Prop) (pv : List (Nat × V)) (M : List Md) (σ : L2.St) (ts : List Ent) (o : Om) (W : WX) (Q : VK) : R (D × Env') → Prop
  | .ok (d, ρ') => ∀ v H' F', Stt P B G F' pv M ρ' σ (o.ent d v ++ ts) H' → o.hold σ v → (∀ a, F a → F' a) → Q v H'
  | .exc c xs ρ' => ∀ cls dx H' F', Stt P B G F' pv M ρ' σ ts H' → ExcAt P H' F' c xs cls dx → (∀ a, F a → F' a) → W cls dx σ H'
  | .bad => False
def tO (P : Par2) (pv : List (Nat × V)) (M : List Md) (o : Om) (W : WX) (f : Fn') : TE := fun σ H Q =>
  ∃ B G F ρ ts, Stt P B G F pv M ρ σ ts H ∧ Post P B G F pv M σ ts o W Q (f ρ)
structure TO (X : Cx) (P : Par2) (pv : List (Nat × V)) (M : List Md) (W : WX) (e : Expr) (o : Om) (f : Fn') : Prop where
  pe : PE X e (tO P pv M o W f)
  sl : ∀ i, o = .sl i → f = rdVar i
theorem _root_.L2.PE.imp {X : Cx} {e : Expr} {t t' : TE} (h : PE X e t) (k : ∀ σ H Q, t' σ H Q → t σ H Q) : PE X e t' := ⟨fun pins s σ H Q I q => h.run pins s σ H Q I (k _ _ _ q)⟩
section
variable {X : Cx} {P : Par2} {pv : List (Nat × V)} {M : List Md} {W : WX}
/-- the view of an operand -/
theorem Stt.opnd {B H : Hp} {G F : Addr → Prop} {ρ : Env'} {σ : L2.St} {ts : List Ent} {o : Om} {d : D} {v : V} (s : Stt P B G F pv M ρ σ ts H) (hm : ∀ e ∈ o.ent d v, e ∈ ts) (hf : o.flat M = true) (hh : o.hold σ v) (hd : ∀ i, o = .sl i → d = ρ.getD i .none) : Vw P.toPar H F v d := by
  cases o with
  | tm m => exact s.w.vw (List.mem_append_left _ (hm _ List.mem_cons_self)) hf
  | sl i =>
    have hi : i < M.length := by
      rw [← s.ls]
      exact (List.getElem?_eq_some_iff.mp hh).1
    have hf' : (M.getD i .dead).flat = true := hf
    have e : M[i]? = some (M.getD i .dead) := by rw [List.getD_eq_getElem?_getD, List.getElem?_eq_getElem hi]; rfl
    obtain ⟨v', e1, q⟩ := s.slot e (by intro z; rw [z] at hf'; cases hf')
    have e2 : σ[i]? = some (some v) := hh
    rw [e1] at e2
    cases e2
    rw [hd i rfl]
    exact s.w.vw q hf'
theorem TO.const {e : Expr} {v : V} {d : D} (h : PE X e (tC v)) (r : ∀ H F, RF P.toPar H F v d) : TO X P pv M W e (.tm .frz) (fun ρ => .ok (d, ρ)) :=
  ⟨h.imp fun σ H Q ⟨B, G, F, ρ, ts, s, k⟩ => k v H F (s.push (r _ _)) trivial fun _ z => z, fun _ z => nomatch z⟩
/-- a name whose slot is frozen -/
theorem TO.var {e : Expr} {i : Nat} (h : PE X e (tVar i)) (hm : M[i]? = some .frz) : TO X P pv M W e (.tm .frz) (rdVar i) :=
  ⟨h.imp fun σ H Q ⟨B, G, F, ρ, ts, s, k⟩ => by
    obtain ⟨v, e1, q⟩ := s.slot hm (by decide)
    exact ⟨v, e1, k v H F (s.push (s.w.rf_frz q)) trivial fun _ z => z⟩, fun _ z => nomatch z⟩
/-- a name whose slot is owned -/
theorem TO.slot {e : Expr} {i : Nat} {m : Md} (h : PE X e (tVar i)) (hm : M[i]? = some m) (hd : m ≠ .dead) : TO X P pv M W e (.sl i) (rdVar i) :=
  ⟨h.imp fun σ H Q ⟨B, G, F, ρ, ts, s, k⟩ => by
    obtain ⟨v, e1, q⟩ := s.slot hm hd
    exact ⟨v, e1, k v H F s e1 fun _ z => z⟩, fun i' z => by cases z; rfl⟩
theorem TO.freeze {e : Expr} {m : Md} {f : Fn'} (h : TO X P pv M W e (.tm m) f) (hp : m.plain = true) : TO X P pv M W e (.tm .frz) f :=
  ⟨h.pe.imp fun σ H Q ⟨B, G, F, ρ, ts, s, k⟩ => by
    refine ⟨B, G, F, ρ, ts, s, ?_⟩
    cases e1 : f ρ with
    | bad => rw [e1] at k; exact k
    | exc c xs ρ' => rw [e1] at k; exact k
    | ok x =>
      obtain ⟨d, ρ'⟩ := x
      rw [e1] at k
      intro v H' F' s' _ hF
      obtain ⟨F2, hF2, w2⟩ := World.freeze (m := m) (d := d) (v := v) (es := ts ++ slots M ρ' σ) s'.w hp
      exact k v H' F2 (s'.to w2) trivial fun a z => hF2 a (hF a z), fun _ z => nomatch z⟩
def bin2 (g : D → D → Option D) (fa fb : Fn') : Fn' := fun ρ => fa ρ >>= fun x => fb x.2 >>= fun y => ofO ((g x.1 y.1).map fun z => (z, y.2))
def rV (P : Par) (g : D → D → Option D) (m : Md) : R2 := fun v1 v2 H Q => ∃ B G F es x y z, World P B G F es H ∧ Vw P H F v1 x ∧ Vw P H F v2 y ∧ g x y = some z ∧ Res P B G F es m z Q
/-- two operands, then what is made of them -/
theorem two_ops {a b : Expr} {oa ob : Om} {fa fb : Fn'} (ha : TO X P pv M W a oa fa) (hb : TO X P pv M W b ob fb) (pf : ∀ i, oa = .sl i → PureF fb) (la : oa.flat M = true) (lb : ob.flat M = true)
    {g : D → D → Option D} {m : Md} {σ : L2.St} {H : Hp} {Q : VK} (h : tO P pv M (.tm m) W (bin2 g fa fb) σ H Q) : tOp (rV P.toPar g m) (tO P pv M oa W fa) (tO P pv M ob W fb) σ H Q := by
  show tO P pv M oa W fa σ H fun v1 H1 => tO P pv M ob W fb σ H1 fun v2 H2 => rV P.toPar g m v1 v2 H2 Q
  obtain ⟨B, G, F, ρ, ts, s, k⟩ := h
  refine ⟨B, G, F, ρ, ts, s, ?_⟩
  have k : Post P B G F pv M σ ts (.tm m) W Q (fa ρ >>= fun x => fb x.2 >>= fun y => ofO ((g x.1 y.1).map fun z => (z, y.2))) := k
  cases e1 : fa ρ with
  | bad => rw [e1] at k; exact k
  | exc c xs ρ' => rw [e1] at k; exact k
  | ok x =>
    obtain ⟨d1, ρ1⟩ := x
    rw [e1] at k
    intro v1 H1 F1 s1 h1 hF1
    refine ⟨B, G, F1, ρ1, _, s1, ?_⟩
    have k : Post P B G F pv M σ ts (.tm m) W Q (fb ρ1 >>= fun y => ofO ((g d1 y.1).map fun z => (z, y.2))) := k
    cases e2 : fb ρ1 with
    | bad => rw [e2] at k; exact k
    | exc c xs ρ' =>
      rw [e2] at k
      intro cls dx H' F' s' hx hF'
      exact k cls dx H' F' s'.dropL hx fun a z => hF' a (hF1 a z)
    | ok y =>
      obtain ⟨d2, ρ2⟩ := y
      rw [e2] at k
      intro v2 H2 F2 s2 h2 hF2
      have k : Post P B G F pv M σ ts (.tm m) W Q (ofO ((g d1 d2).map fun z => (z, ρ2))) := k
      cases e3 : g d1 d2 with
      | none => rw [e3] at k; exact k.elim
      | some z =>
        rw [e3] at k
        refine ⟨B, G, F2, _, d1, d2, z, s2.w, ?_, ?_, e3, fun v H' F' w' hF' => ?_⟩
        · refine s2.opnd (fun e he => List.mem_append_right _ (List.mem_append_left _ he)) la h1 fun i hi => ?_
          have q := ha.sl i hi
          rw [q] at e1
          cases e1
          rw [pf i hi _ _ _ e2]
        · refine s2.opnd (fun e he => List.mem_append_left _ he) lb h2 fun i hi => ?_
          have q := hb.sl i hi
          rw [q] at e2
          cases e2
          rfl
        · refine k v H' F' ?_ trivial fun a z => hF' a (hF2 a (hF1 a z))
          have s3 : Stt P B G F' pv M ρ2 σ ((m, z, some v) :: (ob.ent d2 v2 ++ (oa.ent d1 v1 ++ ts))) H' := s2.to w'
          have s4 : Stt P B G F' pv M ρ2 σ ((m, z, some v) :: (oa.ent d1 v1 ++ ts)) H' := s3.dropM
          exact s4.dropM
theorem TO.bin {a b : Expr} {op : Operator} {oa ob : Om} {fa fb : Fn'} {pos : Pos} {g : D → D → Option D} {m : Md} (hg : OpR X (binaryOp op) (rV P.toPar g m)) (ha : TO X P pv M W a oa fa) (hb : TO X P pv M W b ob fb) (pf : ∀ i, oa = .sl i → PureF fb) (la : oa.flat M = true) (lb : ob.flat M = true) :
    TO X P pv M W (.BinOp a op b pos) (.tm m) (bin2 g fa fb) :=
  ⟨(pe_op hg ha.pe hb.pe).imp fun σ H Q h => two_ops ha hb pf la lb h, fun _ z => nomatch z⟩
theorem TO.cmp {a b : Expr} {op : CmpOp} {oa ob : Om} {fa fb : Fn'} {pos : Pos} {g : D → D → Option D} {m : Md} (hg : OpR X (compareOp op) (rV P.toPar g m)) (hm : behindInMarks op b = false) (ha : TO X P pv M W a oa fa) (hb : TO X P pv M W b ob fb) (pf : ∀ i, oa = .sl i → PureF fb) (la : oa.flat M = true) (lb : ob.flat M = true) :
    TO X P pv M W (.Compare a [op] [b] pos) (.tm m) (bin2 g fa fb) :=
  ⟨(pe_cmpR hg ha.pe hb.pe hm).imp fun σ H Q h => two_ops ha hb pf la lb h, fun _ z => nomatch z⟩
end
end Z

set_option maxRecDepth 100000
set_option maxHeartbeats 1000000
namespace Z
open PySem PySem.Spec PyProof.Rows L2

/-! ### argument lists -/
abbrev FnA := Env' → R (List D × Env')
def entsO : List Om → List D → List V → List Ent
  | o :: os, d :: ds, v :: vs => o.ent d v ++ entsO os ds vs
  | _, _, _ => []
inductive Holds (σ : L2.St) : List Om → List V → Prop
  | nil : Holds σ [] []
  | cons {o : Om} {os : List Om} {v : V} {vs : List V} : o.hold σ v → Holds σ os vs → Holds σ (o :: os) (v :: vs)
def PostA (P : Par2) (B : Hp) (G F : Addr → Prop) (pv : List (Nat × V)) (M : List Md) (σ : L2.St) (ts : List Ent) (os : List Om) (W : WX) (Q : List V → Hp → Prop) : R (List D × Env') → Prop
  | .ok (ds, ρ') => ∀ vs H' F', Stt P B G F' pv M ρ' σ (entsO os ds vs ++ ts) H' → Holds σ os vs → (∀ a, F a → F' a) → Q vs H'
  | .exc c xs ρ' => ∀ cls dx H' F', Stt P B G F' pv M ρ' σ ts H' → ExcAt P H' F' c xs cls dx → (∀ a, F a → F' a) → W cls dx σ H'
  | .bad => False
def tAs (P : Par2) (pv : List (Nat × V)) (M : List Md) (os : List Om) (W : WX) (f : FnA) : TA := fun σ H Q =>
  ∃ B G F ρ ts, Stt P B G F pv M ρ σ ts H ∧ PostA P B G F pv M σ ts os W Q (f ρ)
structure TAs (X : Cx) (P : Par2) (pv : List (Nat × V)) (M : List Md) (W : WX) (es : List Expr) (os : List Om) (f : FnA) : Prop where
  pa : PA X es (tAs P pv M os W f)
  len : ∀ ρ ds ρ', f ρ = .ok (ds, ρ') → ds.length = os.length
  sl : ∀ ρ ds ρ', f ρ = .ok (ds, ρ') → ∀ (k i : Nat), os[k]? = some (Om.sl i) → ds[k]? = some (ρ'.getD i PyData.none)
theorem _root_.L2.PA.imp {X : Cx} {e : List Expr} {t t' : TA} (h : PA X e t) (k : ∀ σ H Q, t' σ H Q → t σ H Q) : PA X e t' := ⟨fun pos pins s σ H Q I q => h.run pos pins s σ H Q I (k _ _ _ q)⟩
def nilA : FnA := fun ρ => .ok ([], ρ)
def consA (fa : Fn') (fr : FnA) : FnA := fun ρ => fa ρ >>= fun x => fr x.2 >>= fun y => .ok (x.1 :: y.1, y.2)
def PureA (f : FnA) : Prop := ∀ ρ d ρ', f ρ = .ok (d, ρ') → ρ' = ρ
section
variable {X : Cx} {P : Par2} {pv : List (Nat × V)} {M : List Md} {W : WX}
theorem TAs.nil : TAs X P pv M W [] [] nilA :=
  ⟨pa_nil.imp fun σ H Q ⟨B, G, F, ρ, ts, s, k⟩ => k [] H F s .nil fun _ z => z, fun ρ ds ρ' h => by cases h; rfl, fun ρ ds ρ' h k i z => by simp at z⟩
theorem TAs.cons {e : Expr} {es : List Expr} {o : Om} {os : List Om} {fa : Fn'} {fr : FnA} (ha : TO X P pv M W e o fa) (hr : TAs X P pv M W es os fr) (pf : ∀ i, o = .sl i → PureA fr)
    (hs : starEach (e :: es) X.env = (false, eval e X.env) :: starEach es X.env) : TAs X P pv M W (e :: es) (o :: os) (consA fa fr) := by
  refine ⟨(pa_cons ha.pe hr.pa hs).imp fun σ H Q ⟨B, G, F, ρ, ts, s, k⟩ => ?_, fun ρ ds ρ' h => ?_, fun ρ ds ρ' h k i z => ?_⟩
  · refine ⟨B, G, F, ρ, ts, s, ?_⟩
    have k : PostA P B G F pv M σ ts (o :: os) W Q (fa ρ >>= fun x => fr x.2 >>= fun y => .ok (x.1 :: y.1, y.2)) := k
    cases e1 : fa ρ with
    | bad => rw [e1] at k; exact k
    | exc c xs ρ' => rw [e1] at k; exact k
    | ok x =>
      obtain ⟨d1, ρ1⟩ := x
      rw [e1] at k
      intro v1 H1 F1 s1 h1 hF1
      refine ⟨B, G, F1, ρ1, _, s1, ?_⟩
      have k : PostA P B G F pv M σ ts (o :: os) W Q (fr ρ1 >>= fun y => .ok (d1 :: y.1, y.2)) := k
      cases e2 : fr ρ1 with
      | bad => rw [e2] at k; exact k
      | exc c xs ρ' =>
        rw [e2] at k
        intro cls dx H' F' s' hx hF'
        exact k cls dx H' F' s'.dropL hx fun a z => hF' a (hF1 a z)
      | ok y =>
        obtain ⟨ds, ρ2⟩ := y
        rw [e2] at k
        intro vs H2 F2 s2 h2 hF2
        refine k (v1 :: vs) H2 F2 (s2.to ?_) (.cons h1 h2) fun a z => hF2 a (hF1 a z)
        refine s2.w.perm ?_
        show (entsO os ds vs ++ (o.ent d1 v1 ++ ts) ++ slots M ρ2 σ).Perm (o.ent d1 v1 ++ entsO os ds vs ++ ts ++ slots M ρ2 σ)
        rw [← List.append_assoc (entsO os ds vs)]
        exact ((List.perm_append_comm.append_right ts).append_right _)
  · obtain ⟨x, e1, h⟩ := R.ok_of_bind h
    obtain ⟨y, e2, h⟩ := R.ok_of_bind h
    cases h
    simp [hr.len _ _ _ e2]
  · obtain ⟨x, e1, h⟩ := R.ok_of_bind h
    obtain ⟨y, e2, h⟩ := R.ok_of_bind h
    cases h
    cases k with
    | zero =>
      simp only [List.getElem?_cons_zero, Option.some.injEq] at z ⊢
      have q := ha.sl i z
      rw [q] at e1
      cases e1
      rw [pf i z _ _ _ e2]
    | succ k =>
      simp only [List.getElem?_cons_succ] at z ⊢
      exact hr.sl _ _ _ e2 k i z
theorem mem_entsO : ∀ {os : List Om} {ds : List D} {vs : List V} {k : Nat} {m : Md} {d : D} {v : V}, os[k]? = some (.tm m) → ds[k]? = some d → vs[k]? = some v → (m, d, some v) ∈ entsO os ds vs
  | o :: os, d' :: ds, v' :: vs, 0, m, d, v, h1, h2, h3 => by
    simp only [List.getElem?_cons_zero, Option.some.injEq] at h1 h2 h3
    subst h1 h2 h3
    exact List.mem_append_left _ List.mem_cons_self
  | o :: os, d' :: ds, v' :: vs, k + 1, m, d, v, h1, h2, h3 => List.mem_append_right _ (mem_entsO (os := os) (k := k) (by simpa using h1) (by simpa using h2) (by simpa using h3))
  | [], _, _, _, _, _, _, h, _, _ => by simp at h
  | _ :: _, [], _, _, _, _, _, _, h, _ => by simp at h
  | _ :: _, _ :: _, [], _, _, _, _, _, _, h => by simp at h
theorem Holds.length {σ : L2.St} : ∀ {os : List Om} {vs : List V}, Holds σ os vs → os.length = vs.length
  | _, _, .nil => rfl
  | _, _, .cons _ r => by simp [Holds.length r]
theorem Holds.get {σ : L2.St} : ∀ {os : List Om} {vs : List V} {k : Nat} {o : Om}, Holds σ os vs → os[k]? = some o → ∃ v, vs[k]? = some v ∧ o.hold σ v
  | _, _, _, _, .nil, h => by simp at h
  | _, _, 0, _, .cons a r, h => by simp at h; subst h; exact ⟨_, rfl, a⟩
  | _, _, k + 1, _, .cons a r, h => by
    obtain ⟨v, h1, h2⟩ := Holds.get (k := k) r (by simpa using h)
    exact ⟨v, by simpa using h1, h2⟩
theorem Vws.of_get {P : Par} {H : Hp} {F : Addr → Prop} : ∀ {vs : List V} {ds : List D}, vs.length = ds.length → (∀ (k : Nat) (v : V) (d : D), vs[k]? = some v → ds[k]? = some d → Vw P H F v d) → Vws P H F vs ds
  | [], [], _, _ => .nil
  | v :: vs, d :: ds, e, h => .cons (h 0 v d rfl rfl) (Vws.of_get (by simpa using e) fun k w x h1 h2 => h (k + 1) w x (by simpa using h1) (by simpa using h2))
  | [], _ :: _, e, _ => by simp at e
  | _ :: _, [], e, _ => by simp at e
theorem RFs.of_get {P : Par} {H : Hp} {F : Addr → Prop} : ∀ {vs : List V} {ds : List D}, vs.length = ds.length → (∀ (k : Nat) (v : V) (d : D), vs[k]? = some v → ds[k]? = some d → RF P H F v d) → RFs P H F vs ds
  | [], [], _, _ => .nil
  | v :: vs, d :: ds, e, h => .cons (h 0 v d rfl rfl) (RFs.of_get (by simpa using e) fun k w x h1 h2 => h (k + 1) w x (by simpa using h1) (by simpa using h2))
  | [], _ :: _, e, _ => by simp at e
  | _ :: _, [], e, _ => by simp at e
/-- views of all arguments -/
theorem TAs.views {es : List Expr} {os : List Om} {f : FnA} (h : TAs X P pv M W es os f) (fl : os.all (·.flat M) = true) {ρ ρ' : Env'} {ds : List D} (e : f ρ = .ok (ds, ρ')) {B H : Hp} {G F : Addr → Prop} {σ : L2.St} {ts : List Ent} {vs : List V}
    (s : Stt P B G F pv M ρ' σ (entsO os ds vs ++ ts) H) (hh : Holds σ os vs) : Vws P.toPar H F vs ds := by
  have hl := h.len _ _ _ e
  refine Vws.of_get (by rw [hl, hh.length]) fun k v d h1 h2 => ?_
  have hk : k < os.length := by rw [← hl]; exact (List.getElem?_eq_some_iff.mp h2).1
  have h3 : os[k]? = some os[k] := List.getElem?_eq_getElem hk
  obtain ⟨v', h4, h5⟩ := hh.get h3
  rw [h1] at h4
  cases h4
  refine s.opnd (o := os[k]) (fun x hx => ?_) (List.all_eq_true.mp fl _ (List.getElem_mem hk)) h5 fun i hi => ?_
  · cases ho : os[k] with
    | tm m =>
      rw [ho] at hx h3
      simp only [Om.ent, List.mem_singleton] at hx
      subst hx
      exact List.mem_append_left _ (mem_entsO h3 h2 h1)
    | sl i => rw [ho] at hx; simp [Om.ent] at hx
  · have q := h.sl _ _ _ e k i (by rw [h3, hi])
    rw [h2] at q
    exact Option.some.inj q
/-- all arguments frozen -/
theorem TAs.frozen {es : List Expr} {os : List Om} {f : FnA} (h : TAs X P pv M W es os f) (fl : ∀ o ∈ os, o = .tm .frz) {ρ ρ' : Env'} {ds : List D} (e : f ρ = .ok (ds, ρ')) {B H : Hp} {G F : Addr → Prop} {σ : L2.St} {ts : List Ent} {vs : List V}
    (s : Stt P B G F pv M ρ' σ (entsO os ds vs ++ ts) H) (hh : Holds σ os vs) : RFs P.toPar H F vs ds := by
  have hl := h.len _ _ _ e
  refine RFs.of_get (by rw [hl, hh.length]) fun k v d h1 h2 => ?_
  have hk : k < os.length := by rw [← hl]; exact (List.getElem?_eq_some_iff.mp h2).1
  have h3 : os[k]? = some (.tm .frz) := by rw [List.getElem?_eq_getElem hk, fl _ (List.getElem_mem hk)]
  exact s.w.rf_frz (List.mem_append_left _ (List.mem_append_left _ (mem_entsO h3 h2 h1)))
/-- what is made of arguments -/
def mapA (g : List D → Option D) (f : FnA) : Fn' := fun ρ => f ρ >>= fun x => ofO ((g x.1).map fun z => (z, x.2))
theorem args_ops {es : List Expr} {os : List Om} {f : FnA} (h : TAs X P pv M W es os f) {g : List D → Option D} {m : Md} {σ : L2.St} {H : Hp} {Q : VK} (hh : tO P pv M (.tm m) W (mapA g f) σ H Q) {r : List V → Hp → Prop}
    (hr : ∀ (B : Hp) (G F F0 : Addr → Prop) (ρ ρ' : Env') (ts : List Ent) (ds : List D) (vs : List V) (H' : Hp) (z : D), Stt P B G F pv M ρ' σ (entsO os ds vs ++ ts) H' → Holds σ os vs → f ρ = .ok (ds, ρ') → g ds = some z →
      (∀ v H2 F2, Stt P B G F2 pv M ρ' σ ((m, z, some v) :: (entsO os ds vs ++ ts)) H2 → (∀ a, F a → F2 a) → Q v H2) → r vs H') : tAs P pv M os W f σ H r := by
  obtain ⟨B, G, F, ρ, ts, s, k⟩ := hh
  refine ⟨B, G, F, ρ, ts, s, ?_⟩
  have k : Post P B G F pv M σ ts (.tm m) W Q (f ρ >>= fun x => ofO ((g x.1).map fun z => (z, x.2))) := k
  cases e1 : f ρ with
  | bad => rw [e1] at k; exact k
  | exc c xs ρ' => rw [e1] at k; exact k
  | ok x =>
    obtain ⟨ds, ρ1⟩ := x
    rw [e1] at k
    intro vs H1 F1 s1 h1 hF1
    have k : Post P B G F pv M σ ts (.tm m) W Q (ofO ((g ds).map fun z => (z, ρ1))) := k
    cases e2 : g ds with
    | none => rw [e2] at k; exact k.elim
    | some z =>
      rw [e2] at k
      exact hr B G F1 F ρ ρ1 ts ds vs H1 z s1 h1 e1 e2 fun v H2 F2 s2 hF2 => k v H2 F2 s2.dropM trivial fun a q => hF2 a (hF1 a q)
def tupA (ds : List D) : Option D := if ds.length ≤ sizeLine then some (.tuple ds) else none
def lstA (ds : List D) : Option D := if ds.length ≤ sizeLine then some (.list ds) else none
theorem TO.tuple {es : List Expr} {os : List Om} {f : FnA} {k : Nat} {pos : Pos} (h : TAs X P pv M W es os f) (fl : ∀ o ∈ os, o = .tm .frz) : TO X P pv M W (.Tuple es k pos) (.tm .frz) (mapA tupA f) :=
  ⟨(pe_tup h.pa).imp fun σ H Q q => args_ops h q fun B G F F0 ρ ρ' ts ds vs H' z s hh e1 e2 k => by
    unfold tupA at e2
    split at e2
    · rename_i hz
      cases e2
      have r := h.frozen fl e1 s hh
      exact ⟨by rw [r.length]; exact hz, fun p hp => k _ _ F (s.to (s.w.tup hp r)) fun _ z => z⟩
    · exact (by cases e2), fun _ z => nomatch z⟩
theorem TO.list {es : List Expr} {os : List Om} {f : FnA} {pos : Pos} (h : TAs X P pv M W es os f) (fl : ∀ o ∈ os, o = .tm .frz) : TO X P pv M W (.List es pos) (.tm (.lst .frz)) (mapA lstA f) :=
  ⟨(pe_lst h.pa).imp fun σ H Q q => args_ops h q fun B G F F0 ρ ρ' ts ds vs H' z s hh e1 e2 k => by
    unfold lstA at e2
    split at e2
    · rename_i hz
      cases e2
      have r := h.frozen fl e1 s hh
      exact ⟨by rw [r.length]; exact hz, fun p hp => k _ _ F (s.to (s.w.lst0 r hp)) fun _ z => z⟩
    · exact (by cases e2), fun _ z => nomatch z⟩
/-- a list that is to own its items -/
theorem entsO_own {m : Md} : ∀ {os : List Om} {ds : List D} {vs : List V}, (∀ o ∈ os, o = .tm m) → os.length = ds.length → os.length = vs.length → entsO os ds vs = entsOf m ds vs
  | [], [], [], _, _, _ => rfl
  | o :: os, d :: ds, v :: vs, h, e1, e2 => by
    have := h o List.mem_cons_self
    subst this
    show [(m, d, some v)] ++ entsO os ds vs = (m, d, some v) :: entsOf m ds vs
    rw [entsO_own (fun o ho => h o (List.mem_cons_of_mem _ ho)) (by simpa using e1) (by simpa using e2)]; rfl
  | [], _ :: _, _, _, e, _ => by simp at e
  | [], [], _ :: _, _, _, e => by simp at e
  | _ :: _, [], _, _, e, _ => by simp at e
  | _ :: _, _ :: _, [], _, _, e => by simp at e
/-- a built-in function, a built-in class, called -/
theorem call_res {es : List Expr} {os : List Om} {f : FnA} {g : List D → Option D} {m : Md} (h : TAs X P pv M W es os f) (fl : os.all (·.flat M) = true) {σ : L2.St} {H : Hp} {Q : VK} (q : tO P pv M (.tm m) W (mapA g f) σ H Q) :
    tCB (fun vs H Q => ∃ B G F es xs z, World P.toPar B G F es H ∧ Vws P.toPar H F vs xs ∧ g xs = some z ∧ Res P.toPar B G F es m z Q) (tAs P pv M os W f) σ H Q := by
  refine args_ops h q fun B G F F0 ρ ρ' ts ds vs H' z s hh e1 e2 k => ?_
  exact ⟨B, G, F, _, ds, z, s.w, h.views fl e1 s hh, e2, fun v H2 F2 w2 hF => k v H2 F2 (s.to w2) hF⟩
theorem TO.callB {x : Str} {id : String} {p pos : Pos} {e : Expr} {es : List Expr} {os : List Om} {f : FnA} {g : List D → Option D} {m : Md} (hc : CallV X P.toPar (.builtin id) g m) (hg : Gl X x) (hm : X.mg x = none) (hv : bootBuiltins x = some (.builtin id))
    (h : TAs X P pv M W (e :: es) os f) (fl : os.all (·.flat M) = true) (hn : x ≠ "__name__") (hdb : (x == ("__debug__" : Str)) = false) (he : starEach (e :: es) X.env = (false, eval e X.env) :: starEach es X.env) (hpl : (backTo pos (starEach es X.env)).any (·.1) = false) :
    TO X P pv M W (.Call (.Name x p) (e :: es) [] pos) (.tm m) (mapA g f) :=
  ⟨(pe_callB hc hg hm hv h.pa hn hdb he hpl).imp fun σ H Q q => call_res h fl q, fun _ z => nomatch z⟩
theorem TO.callT {x : Str} {T : String} {p pos : Pos} {e : Expr} {es : List Expr} {os : List Om} {f : FnA} {g : List D → Option D} {m : Md} (hc : CallV X P.toPar (.type T) g m) (hg : Gl X x) (hm : X.mg x = none) (hv : bootBuiltins x = some (.type T))
    (h : TAs X P pv M W (e :: es) os f) (fl : os.all (·.flat M) = true) (hn : x ≠ "__name__") (hdb : (x == ("__debug__" : Str)) = false) (he : starEach (e :: es) X.env = (false, eval e X.env) :: starEach es X.env) (hpl : (backTo pos (starEach es X.env)).any (·.1) = false) :
    TO X P pv M W (.Call (.Name x p) (e :: es) [] pos) (.tm m) (mapA g f) :=
  ⟨(pe_callTy hc hg hm hv h.pa hn hdb he hpl).imp fun σ H Q q => call_res h fl q, fun _ z => nomatch z⟩
end
end Z

set_option maxRecDepth 100000
set_option maxHeartbeats 1000000
namespace Z
open PySem PySem.Spec PyProof.Rows L2

/-! ### tests -/
def PostT (P : Par2) (B : Hp) (G F : Addr → Prop) (pv : List (Nat × V)) (M : List Md) (σ : L2.St) (ts : List Ent) (W : WX) (Q : Bool → Hp → Prop) : R (D × Env') → Prop
  | .ok (.bool b, ρ') => ∀ H' F', Stt P B G F' pv M ρ' σ ts H' → (∀ a, F a → F' a) → Q b H'
  | .ok _ => False
  | .exc c xs ρ' => ∀ cls dx H' F', Stt P B G F' pv M ρ' σ ts H' → ExcAt P H' F' c xs cls dx → (∀ a, F a → F' a) → W cls dx σ H'
  | .bad => False
def tT (P : Par2) (pv : List (Nat × V)) (M : List Md) (W : WX) (f : Fn') : TT := fun σ H Q =>
  ∃ B G F ρ ts, Stt P B G F pv M ρ σ ts H ∧ PostT P B G F pv M σ ts W Q (f ρ)
theorem _root_.L2.PT.imp {X : Cx} {e : Expr} {t t' : TT} (h : PT X e t) (k : ∀ σ H Q, t' σ H Q → t σ H Q) : PT X e t' := ⟨fun pins s σ H Q I q => h.run pins s σ H Q I (k _ _ _ q)⟩
theorem _root_.L2.PW.imp {X : Cx} {e : Expr} {t t' : TT} (h : PW X e t) (k : ∀ σ H Q, t' σ H Q → t σ H Q) : PW X e t' := ⟨fun wh pins s σ H Q I q => h.run wh pins s σ H Q I (k _ _ _ q)⟩
section
variable {X : Cx} {P : Par2} {pv : List (Nat × V)} {M : List Md} {W : WX}
/-- a test is asked as a value -/
theorem tT_tO {f : Fn'} {σ : L2.St} {H : Hp} {Q : Bool → Hp → Prop} (h : tT P pv M W f σ H Q) : tO P pv M (.tm .frz) W f σ H fun x H1 => ∃ c, x = .bl c ∧ Q c H1 := by
  obtain ⟨B, G, F, ρ, ts, s, k⟩ := h
  refine ⟨B, G, F, ρ, ts, s, ?_⟩
  cases e1 : f ρ with
  | bad => rw [e1] at k; exact k
  | exc c xs ρ' => rw [e1] at k; exact k
  | ok x =>
    obtain ⟨d, ρ1⟩ := x
    rw [e1] at k
    cases d with
    | bool b =>
      intro v H' F' s' _ hF
      have r := s'.w.rf_frz (d := .bool b) (v := v) (List.mem_append_left _ List.mem_cons_self)
      cases r
      exact ⟨b, rfl, k H' F' s'.drop1 hF⟩
    | none => exact k.elim
    | int i => exact k.elim
    | str i => exact k.elim
    | list i => exact k.elim
    | tuple i => exact k.elim
    | dict i => exact k.elim
theorem tt_val {e : Expr} {f : Fn'} (h : TO X P pv M W e (.tm .frz) f) (he : ∀ whole, isTrue e X.env whole = (do let v ← whole; standAt e.pos; holding [v] (truthy v))) : PT X e (tT P pv M W f) :=
  (pt_val h.pe he).imp fun _ _ _ q => tT_tO q
theorem tt_cmp {a b : Expr} {op : CmpOp} {oa ob : Om} {fa fb : Fn'} {pos : Pos} {g : D → D → Option D} (hg : OpR X (compareOp op) (rV P.toPar g .frz)) (hm : behindInMarks op b = false) (ha : TO X P pv M W a oa fa) (hb : TO X P pv M W b ob fb) (pf : ∀ i, oa = .sl i → PureF fb) (la : oa.flat M = true) (lb : ob.flat M = true) :
    PT X (.Compare a [op] [b] pos) (tT P pv M W (bin2 g fa fb)) :=
  (pt_cmpR hg ha.pe hb.pe hm).imp fun _ _ _ q => two_ops ha hb pf la lb (tT_tO q)
def andF (fa fb : Fn') : Fn' := fun ρ => fa ρ >>= fun x => match x.1 with
  | .bool true => fb x.2
  | .bool false => .ok (.bool false, x.2)
  | _ => .bad
def orF (fa fb : Fn') : Fn' := fun ρ => fa ρ >>= fun x => match x.1 with
  | .bool true => .ok (.bool true, x.2)
  | .bool false => fb x.2
  | _ => .bad
def notF (fa : Fn') : Fn' := fun ρ => fa ρ >>= fun x => match x.1 with
  | .bool b => .ok (.bool (!b), x.2)
  | _ => .bad
def iteF (fc fa fb : Fn') : Fn' := fun ρ => fc ρ >>= fun x => match x.1 with
  | .bool true => fa x.2
  | .bool false => fb x.2
  | _ => .bad
theorem tt_not {a : Expr} {f : Fn'} {pos : Pos} (h : PT X a (tT P pv M W f)) : PT X (.UnaryOp .Not a pos) (tT P pv M W (notF f)) :=
  (pt_not h).imp fun σ H Q ⟨B, G, F, ρ, ts, s, k⟩ => by
    refine ⟨B, G, F, ρ, ts, s, ?_⟩
    have k : PostT P B G F pv M σ ts W Q (f ρ >>= fun x => match x.1 with | .bool b => .ok (.bool (!b), x.2) | _ => .bad) := k
    cases e1 : f ρ with
    | bad => rw [e1] at k; exact k
    | exc c xs ρ' => rw [e1] at k; exact k
    | ok x =>
      obtain ⟨d, ρ1⟩ := x
      rw [e1] at k
      cases d with
      | bool b => exact k
      | none => exact k.elim
      | int i => exact k.elim
      | str i => exact k.elim
      | list i => exact k.elim
      | tuple i => exact k.elim
      | dict i => exact k.elim
/-- a test, then one of two -/
theorem ite_ops {f fa fb : Fn'} {σ : L2.St} {H : Hp} {Q : Bool → Hp → Prop} (h : tT P pv M W (iteF f fa fb) σ H Q) : tT P pv M W f σ H fun c H1 => if c = true then tT P pv M W fa σ H1 Q else tT P pv M W fb σ H1 Q := by
  obtain ⟨B, G, F, ρ, ts, s, k⟩ := h
  refine ⟨B, G, F, ρ, ts, s, ?_⟩
  have k : PostT P B G F pv M σ ts W Q (f ρ >>= fun x => match x.1 with | .bool true => fa x.2 | .bool false => fb x.2 | _ => .bad) := k
  cases e1 : f ρ with
  | bad => rw [e1] at k; exact k
  | exc c xs ρ' => rw [e1] at k; exact k
  | ok x =>
    obtain ⟨d, ρ1⟩ := x
    rw [e1] at k
    have mono : ∀ {F1 : Addr → Prop} {r : R (D × Env')}, (∀ a, F a → F1 a) → PostT P B G F pv M σ ts W Q r → PostT P B G F1 pv M σ ts W Q r := fun {F1 r} hF q => by
      cases r with
      | bad => exact q
      | exc c xs ρ' => exact fun cls dx H' F' s' hx hF' => q cls dx H' F' s' hx fun a z => hF' a (hF a z)
      | ok y =>
        obtain ⟨d', ρ'⟩ := y
        cases d' with
        | bool b => exact fun H' F' s' hF' => q H' F' s' fun a z => hF' a (hF a z)
        | _ => exact q
    cases d with
    | bool b =>
      intro H' F' s' hF
      cases b with
      | true => exact (if_pos rfl).mpr ⟨B, G, F', ρ1, ts, s', mono hF k⟩
      | false => exact (if_neg Bool.false_ne_true).mpr ⟨B, G, F', ρ1, ts, s', mono hF k⟩
    | none => exact k.elim
    | int i => exact k.elim
    | str i => exact k.elim
    | list i => exact k.elim
    | tuple i => exact k.elim
    | dict i => exact k.elim
def boolF (b : Bool) : Fn' := fun ρ => .ok (.bool b, ρ)
theorem bool_ops {b : Bool} {σ : L2.St} {H : Hp} {Q : Bool → Hp → Prop} (h : tT P pv M W (boolF b) σ H Q) : Q b H := by
  obtain ⟨B, G, F, ρ, ts, s, k⟩ := h
  exact k H F s fun _ z => z
theorem andF_ite {fa fb : Fn'} : andF fa fb = iteF fa fb (boolF false) := by
  funext ρ
  unfold andF iteF boolF
  cases fa ρ with
  | ok x =>
    obtain ⟨d, ρ1⟩ := x
    cases d with
    | bool b => cases b <;> rfl
    | _ => rfl
  | _ => rfl
theorem orF_ite {fa fb : Fn'} : orF fa fb = iteF fa (boolF true) fb := by
  funext ρ
  unfold orF iteF boolF
  cases fa ρ with
  | ok x =>
    obtain ⟨d, ρ1⟩ := x
    cases d with
    | bool b => cases b <;> rfl
    | _ => rfl
  | _ => rfl
theorem tw_and1 {a : Expr} {f : Fn'} {pos : Pos} (h : PT X a (tT P pv M W f)) : PW X (.BoolOp .And [a] pos) (tT P pv M W f) := pw_and1 h
theorem tw_or1 {a : Expr} {f : Fn'} {pos : Pos} (h : PT X a (tT P pv M W f)) : PW X (.BoolOp .Or [a] pos) (tT P pv M W f) := pw_or1 h
theorem tw_and {a b : Expr} {rest : List Expr} {fa fb : Fn'} {pos : Pos} (ha : PT X a (tT P pv M W fa)) (hb : PW X (.BoolOp .And (b :: rest) pos) (tT P pv M W fb)) : PW X (.BoolOp .And (a :: b :: rest) pos) (tT P pv M W (andF fa fb)) :=
  (pw_and ha hb).imp fun σ H Q q => by
    rw [andF_ite] at q
    obtain ⟨B, G, F, ρ, ts, s, k⟩ := ite_ops q
    refine ⟨B, G, F, ρ, ts, s, ?_⟩
    cases e1 : fa ρ with
    | bad => rw [e1] at k; exact k
    | exc c xs ρ' => rw [e1] at k; exact k
    | ok x =>
      obtain ⟨d, ρ1⟩ := x
      rw [e1] at k
      cases d with
      | bool b =>
        intro H' F' s' hF
        have k2 := k H' F' s' hF
        cases b with
        | true => exact k2
        | false => exact bool_ops k2
      | _ => exact k
theorem tw_or {a b : Expr} {rest : List Expr} {fa fb : Fn'} {pos : Pos} (ha : PT X a (tT P pv M W fa)) (hb : PW X (.BoolOp .Or (b :: rest) pos) (tT P pv M W fb)) : PW X (.BoolOp .Or (a :: b :: rest) pos) (tT P pv M W (orF fa fb)) :=
  (pw_or ha hb).imp fun σ H Q q => by
    rw [orF_ite] at q
    obtain ⟨B, G, F, ρ, ts, s, k⟩ := ite_ops q
    refine ⟨B, G, F, ρ, ts, s, ?_⟩
    cases e1 : fa ρ with
    | bad => rw [e1] at k; exact k
    | exc c xs ρ' => rw [e1] at k; exact k
    | ok x =>
      obtain ⟨d, ρ1⟩ := x
      rw [e1] at k
      cases d with
      | bool b =>
        intro H' F' s' hF
        have k2 := k H' F' s' hF
        cases b with
        | true => exact bool_ops k2
        | false => exact k2
      | _ => exact k
theorem Post.mono {B : Hp} {G F F1 : Addr → Prop} {σ : L2.St} {ts : List Ent} {o : Om} {Q : VK} {r : R (D × Env')} (hF : ∀ a, F a → F1 a) (q : Post P B G F pv M σ ts o W Q r) : Post P B G F1 pv M σ ts o W Q r := by
  cases r with
  | bad => exact q
  | exc c xs ρ' => exact fun cls dx H' F' s' hx hF' => q cls dx H' F' s' hx fun a z => hF' a (hF a z)
  | ok y =>
    obtain ⟨d', ρ'⟩ := y
    exact fun v H' F' s' h hF' => q v H' F' s' h fun a z => hF' a (hF a z)
/-- a if c else b -/
theorem TO.ite {c a b : Expr} {m : Md} {fc fa fb : Fn'} {pos : Pos} (hc : PT X c (tT P pv M W fc)) (ha : TO X P pv M W a (.tm m) fa) (hb : TO X P pv M W b (.tm m) fb) : TO X P pv M W (.IfExp c a b pos) (.tm m) (iteF fc fa fb) :=
  ⟨(pe_ifExp hc ha.pe hb.pe).imp fun σ H Q ⟨B, G, F, ρ, ts, s, k⟩ => by
    refine ⟨B, G, F, ρ, ts, s, ?_⟩
    have k : Post P B G F pv M σ ts (.tm m) W Q (fc ρ >>= fun x => match x.1 with | .bool true => fa x.2 | .bool false => fb x.2 | _ => .bad) := k
    cases e1 : fc ρ with
    | bad => rw [e1] at k; exact k
    | exc c xs ρ' => rw [e1] at k; exact k
    | ok x =>
      obtain ⟨d, ρ1⟩ := x
      rw [e1] at k
      cases d with
      | bool b =>
        intro H' F' s' hF
        cases b with
        | true => exact (if_pos rfl).mpr ⟨B, G, F', ρ1, ts, s', k.mono hF⟩
        | false => exact (if_neg Bool.false_ne_true).mpr ⟨B, G, F', ρ1, ts, s', k.mono hF⟩
      | none => exact k.elim
      | int i => exact k.elim
      | str i => exact k.elim
      | list i => exact k.elim
      | tuple i => exact k.elim
      | dict i => exact k.elim, fun _ z => nomatch z⟩
/-- a value that must be a bool, then another one -/
theorem bool_then {f : Fn'} {σ : L2.St} {H : Hp} {k1 : Bool → Hp → Prop} (h : ∃ B G F ρ ts, Stt P B G F pv M ρ σ ts H ∧ (match f ρ with
      | .ok (.bool b, ρ') => ∀ H' F', Stt P B G F' pv M ρ' σ ts H' → (∀ a, F a → F' a) → k1 b H'
      | .ok _ => False
      | .exc c xs ρ' => ∀ cls dx H' F', Stt P B G F' pv M ρ' σ ts H' → ExcAt P H' F' c xs cls dx → (∀ a, F a → F' a) → W cls dx σ H'
      | .bad => False)) : tO P pv M (.tm .frz) W f σ H fun x H1 => ∃ c, x = .bl c ∧ k1 c H1 := by
  obtain ⟨B, G, F, ρ, ts, s, k⟩ := h
  refine tT_tO ⟨B, G, F, ρ, ts, s, ?_⟩
  cases e1 : f ρ with
  | bad => rw [e1] at k; exact k
  | exc c xs ρ' => rw [e1] at k; exact k
  | ok x =>
    obtain ⟨d, ρ1⟩ := x
    rw [e1] at k
    cases d with
    | bool b => exact k
    | _ => exact k
theorem TO.not {a : Expr} {f : Fn'} {pos : Pos} (h : TO X P pv M W a (.tm .frz) f) : TO X P pv M W (.UnaryOp .Not a pos) (.tm .frz) (notF f) :=
  ⟨(pe_not h.pe).imp fun σ H Q ⟨B, G, F, ρ, ts, s, k⟩ => by
    refine bool_then ⟨B, G, F, ρ, ts, s, ?_⟩
    have k : Post P B G F pv M σ ts (.tm .frz) W Q (f ρ >>= fun x => match x.1 with | .bool b => .ok (.bool (!b), x.2) | _ => .bad) := k
    cases e1 : f ρ with
    | bad => rw [e1] at k; exact k
    | exc c xs ρ' => rw [e1] at k; exact k
    | ok x =>
      obtain ⟨d, ρ1⟩ := x
      rw [e1] at k
      cases d with
      | bool b => exact fun H' F' s' hF => k (.bl (!b)) H' F' (s'.push (.bl _)) trivial hF
      | none => exact k.elim
      | int i => exact k.elim
      | str i => exact k.elim
      | list i => exact k.elim
      | tuple i => exact k.elim
      | dict i => exact k.elim, fun _ z => nomatch z⟩
theorem TO.one {op : PySem.BoolOp} {a : Expr} {f : Fn'} {o : Om} {pos : Pos} (h : TO X P pv M W a o f) : TO X P pv M W (.BoolOp op [a] pos) o f := ⟨pe_one h.pe, h.sl⟩
theorem TO.and {a b : Expr} {rest : List Expr} {fa fb : Fn'} {pos : Pos} (ha : TO X P pv M W a (.tm .frz) fa) (hb : TO X P pv M W (.BoolOp .And (b :: rest) pos) (.tm .frz) fb) : TO X P pv M W (.BoolOp .And (a :: b :: rest) pos) (.tm .frz) (andF fa fb) :=
  ⟨(pe_and ha.pe hb.pe).imp fun σ H Q ⟨B, G, F, ρ, ts, s, k⟩ => by
    refine bool_then ⟨B, G, F, ρ, ts, s, ?_⟩
    have k : Post P B G F pv M σ ts (.tm .frz) W Q (fa ρ >>= fun x => match x.1 with | .bool true => fb x.2 | .bool false => .ok (.bool false, x.2) | _ => .bad) := k
    cases e1 : fa ρ with
    | bad => rw [e1] at k; exact k
    | exc c xs ρ' => rw [e1] at k; exact k
    | ok x =>
      obtain ⟨d, ρ1⟩ := x
      rw [e1] at k
      cases d with
      | bool b =>
        intro H' F' s' hF
        cases b with
        | true => exact (if_pos rfl).mpr ⟨B, G, F', ρ1, ts, s', k.mono hF⟩
        | false => exact (if_neg Bool.false_ne_true).mpr (k (.bl false) H' F' (s'.push (.bl _)) trivial hF)
      | none => exact k.elim
      | int i => exact k.elim
      | str i => exact k.elim
      | list i => exact k.elim
      | tuple i => exact k.elim
      | dict i => exact k.elim, fun _ z => nomatch z⟩
theorem TO.or {a b : Expr} {rest : List Expr} {fa fb : Fn'} {pos : Pos} (ha : TO X P pv M W a (.tm .frz) fa) (hb : TO X P pv M W (.BoolOp .Or (b :: rest) pos) (.tm .frz) fb) : TO X P pv M W (.BoolOp .Or (a :: b :: rest) pos) (.tm .frz) (orF fa fb) :=
  ⟨(pe_or ha.pe hb.pe).imp fun σ H Q ⟨B, G, F, ρ, ts, s, k⟩ => by
    refine bool_then ⟨B, G, F, ρ, ts, s, ?_⟩
    have k : Post P B G F pv M σ ts (.tm .frz) W Q (fa ρ >>= fun x => match x.1 with | .bool true => .ok (.bool true, x.2) | .bool false => fb x.2 | _ => .bad) := k
    cases e1 : fa ρ with
    | bad => rw [e1] at k; exact k
    | exc c xs ρ' => rw [e1] at k; exact k
    | ok x =>
      obtain ⟨d, ρ1⟩ := x
      rw [e1] at k
      cases d with
      | bool b =>
        intro H' F' s' hF
        cases b with
        | true => exact (if_pos rfl).mpr (k (.bl true) H' F' (s'.push (.bl _)) trivial hF)
        | false => exact (if_neg Bool.false_ne_true).mpr ⟨B, G, F', ρ1, ts, s', k.mono hF⟩
      | none => exact k.elim
      | int i => exact k.elim
      | str i => exact k.elim
      | list i => exact k.elim
      | tuple i => exact k.elim
      | dict i => exact k.elim, fun _ z => nomatch z⟩
/-- one operand -/
def un1 (g : D → Option D) (fa : Fn') : Fn' := fun ρ => fa ρ >>= fun x => ofO ((g x.1).map fun z => (z, x.2))
theorem one_op {a : Expr} {oa : Om} {fa : Fn'} (ha : TO X P pv M W a oa fa) (la : oa.flat M = true) {g : D → Option D} {m : Md} {σ : L2.St} {H : Hp} {Q : VK} (h : tO P pv M (.tm m) W (un1 g fa) σ H Q) {r : V → Hp → Prop}
    (hr : ∀ v1 H1 B G F es x z, World P.toPar B G F es H1 → Vw P.toPar H1 F v1 x → g x = some z → Res P.toPar B G F es m z Q → r v1 H1) : tO P pv M oa W fa σ H r := by
  obtain ⟨B, G, F, ρ, ts, s, k⟩ := h
  refine ⟨B, G, F, ρ, ts, s, ?_⟩
  have k : Post P B G F pv M σ ts (.tm m) W Q (fa ρ >>= fun x => ofO ((g x.1).map fun z => (z, x.2))) := k
  cases e1 : fa ρ with
  | bad => rw [e1] at k; exact k
  | exc c xs ρ' => rw [e1] at k; exact k
  | ok x =>
    obtain ⟨d1, ρ1⟩ := x
    rw [e1] at k
    intro v1 H1 F1 s1 h1 hF1
    have k : Post P B G F pv M σ ts (.tm m) W Q (ofO ((g d1).map fun z => (z, ρ1))) := k
    cases e3 : g d1 with
    | none => rw [e3] at k; exact k.elim
    | some z =>
      rw [e3] at k
      refine hr v1 H1 B G F1 _ d1 z s1.w (s1.opnd (fun e he => List.mem_append_left _ he) la h1 fun i hi => ?_) e3 fun v H' F' w' hF' => ?_
      · have q := ha.sl i hi
        rw [q] at e1
        cases e1
        rfl
      · exact k v H' F' (s1.to w' : Stt P B G F' pv M ρ1 σ ((m, z, some v) :: (oa.ent d1 v1 ++ ts)) H').dropM trivial fun a z => hF' a (hF1 a z)
theorem TO.un {a : Expr} {op : PySem.UnaryOp} {oa : Om} {fa : Fn'} {pos : Pos} {g : D → Option D} {m : Md} (hg : UnV X P.toPar (unaryOp op) g m) (ha : TO X P pv M W a oa fa) (la : oa.flat M = true) : TO X P pv M W (.UnaryOp op a pos) (.tm m) (un1 g fa) :=
  ⟨(pe_un hg ha.pe).imp fun σ H Q h => one_op ha la h fun v1 H1 B G F es x z w hv hg k => ⟨B, G, F, es, x, z, w, hv, hg, k⟩, fun _ z => nomatch z⟩
end
end Z

set_option maxRecDepth 100000
set_option maxHeartbeats 1000000
namespace Z
open PySem PySem.Spec PyProof.Rows L2

section
variable {X : Cx} {P : Par2} {pv : List (Nat × V)} {M : List Md} {W : WX}
/-! ### items, slices -/
theorem RFs.atI {P : Par} {H : Hp} {F : Addr → Prop} {vs : List V} {ds : List D} {i : Int} {d : D} (r : RFs P H F vs ds) (h : atI ds i = some d) : ∃ v, L2.atI vs i = some v ∧ RF P H F v d := by
  unfold L2.atI at h ⊢
  rw [r.length]
  obtain ⟨j, h1, h2⟩ := Option.bind_eq_some_iff.mp h
  obtain ⟨v, h3, h4⟩ := r.get h2
  exact ⟨v, by rw [h1]; exact h3, h4⟩
def idxD : D → D → Option D
  | .list ds, .int i => atI ds i
  | .tuple ds, .int i => atI ds i
  | .str z, .int i => if z.length ≤ sizeLine then (atI z.cps.toList i).map fun c => .str ⟨#[c]⟩ else none
  | _, _ => none
theorem idxV (hK : X.K = P.K) : IxR X (rV P.toPar idxD .frz) := by
  intro value slice pins s σ H v1 v2 u1 u2 Q I r1 r2 h hs
  obtain ⟨B, G, F, es, x, y, z, w, h1, h2, hg, k⟩ := h
  cases h1 <;> cases h2 <;> simp only [idxD, reduceCtorEq] at hg
  · split at hg
    · rename_i i hl
      obtain ⟨c, e, rfl⟩ := Option.map_eq_some_iff.mp hg
      exact ix_str value slice pins s σ H _ _ _ _ Q I r1 r2 ⟨_, _, c, rfl, rfl, hl, e, k.rf w (.str _)⟩ hs
    · cases hg
  · rename_i a vs ds s1 q1 i
    obtain ⟨v, e, r⟩ := q1.atI hg
    exact ix_tup value slice pins s σ H _ _ _ _ Q I r1 r2 ⟨a, vs, i, v, rfl, rfl, hK ▸ s1, e, k.rf w r⟩ hs
  · rename_i a vs ds s1 q1 i
    obtain ⟨v, e, r⟩ := q1.atI hg
    exact ix_list value slice pins s σ H _ _ _ _ Q I r1 r2 ⟨a, vs, i, v, rfl, rfl, SqL.of s1, e, k.rf w r⟩ hs
theorem TO.idx {a b : Expr} {oa ob : Om} {fa fb : Fn'} {pos : Pos} (hK : X.K = P.K) (ha : TO X P pv M W a oa fa) (hb : TO X P pv M W b ob fb) (pf : ∀ i, oa = .sl i → PureF fb) (la : oa.flat M = true) (lb : ob.flat M = true) (hs : PlainIx b) :
    TO X P pv M W (.Subscript a b pos) (.tm .frz) (bin2 idxD fa fb) :=
  ⟨(pe_ix (idxV hK) ha.pe hb.pe hs).imp fun σ H Q h => two_ops ha hb pf la lb h, fun _ z => nomatch z⟩
def cutD (ds : List D) (lo hi : Option Int) : List D := (ds.drop (HT.sIx ds.length 0 lo)).take (HT.sIx ds.length ds.length hi - HT.sIx ds.length 0 lo)
theorem RFs.cut {P : Par} {H : Hp} {F : Addr → Prop} {vs : List V} {ds : List D} (r : RFs P H F vs ds) (lo hi : Option Int) : RFs P H F (cutV vs lo hi) (cutD ds lo hi) := by
  unfold cutV cutD
  rw [r.length]
  exact (r.drop _).take _
def sliD (lo hi : Option Int) : D → Option D
  | .list ds => some (.list (cutD ds lo hi))
  | .tuple ds => some (.tuple (cutD ds lo hi))
  | .str z => if z.length ≤ sizeLine then some (.str (cutS z lo hi)) else none
  | _ => none
def rSl (P : Par) : V → Option Int → Option Int → Hp → VK → Prop := fun v lo hi H Q => ∃ B G F es x z, World P B G F es H ∧ Vw P H F v x ∧ sliD lo hi x = some z ∧ Res P B G F es .frz z Q
theorem cut_all (ds : List D) (lo hi : Option Int) (h : HT.sIx ds.length 0 lo = 0 ∧ HT.sIx ds.length ds.length hi = ds.length) : cutD ds lo hi = ds := by
  unfold cutD
  rw [h.1, h.2]
  simp
theorem sliV (hK : X.K = P.K) : SlR X (rSl P.toPar) := by
  intro pins s σ H v u1 vl vu lo hi sl Q I r1 hs pl pu h
  obtain ⟨B, G, F, es, x, z, w, h1, hg, k⟩ := h
  cases h1 <;> simp only [sliD, reduceCtorEq, Option.some.injEq] at hg
  · split at hg
    · cases hg
      exact sl_str pins s σ H _ _ vl vu lo hi sl Q I r1 hs pl pu ⟨_, rfl, by assumption, k.rf w (.str _)⟩
    · cases hg
  · subst hg
    rename_i a vs ds s1 q1
    refine sl_tupA pins s σ H _ _ vl vu lo hi sl Q I r1 hs pl pu ⟨a, vs, rfl, hK ▸ s1, fun hw => ?_, fun hw p hp => k _ _ F (w.tup hp (q1.cut lo hi)) fun _ z => z⟩
    rw [q1.length] at hw
    rw [cut_all ds lo hi hw] at k
    exact k.rf w (.tup s1 q1)
  · subst hg
    rename_i a vs ds s1 q1
    refine sl_list pins s σ H _ _ vl vu lo hi sl Q I r1 hs pl pu ⟨a, vs, rfl, SqL.of s1, fun p hp => ?_⟩
    obtain ⟨F', hF, w'⟩ := w.lstF (q1.cut lo hi) hp
    exact k _ _ F' w' hF
/-- a part of a slice -/
def partF : Option Fn' → Env' → R (Option Int × Env')
  | none, ρ => .ok (none, ρ)
  | some f, ρ => f ρ >>= fun y => match y.1 with
    | .int i => .ok (some i, y.2)
    | _ => .bad
def PostP (P : Par2) (B : Hp) (G F : Addr → Prop) (pv : List (Nat × V)) (M : List Md) (σ : L2.St) (ts : List Ent) (W : WX) (Q : Option Int → Hp → Prop) : R (Option Int × Env') → Prop
  | .ok (l, ρ') => ∀ H' F', Stt P B G F' pv M ρ' σ ts H' → (∀ a, F a → F' a) → Q l H'
  | .exc c xs ρ' => ∀ cls dx H' F', Stt P B G F' pv M ρ' σ ts H' → ExcAt P H' F' c xs cls dx → (∀ a, F a → F' a) → W cls dx σ H'
  | .bad => False
structure TPart (X : Cx) (P : Par2) (pv : List (Nat × V)) (M : List Md) (W : WX) (e : Option Expr) (f : Option Fn') : Prop where
  po : PO X e fun σ H Q => ∃ B G F ρ ts, Stt P B G F pv M ρ σ ts H ∧ PostP P B G F pv M σ ts W Q (partF f ρ)
theorem _root_.L2.PO.imp {X : Cx} {e : Option Expr} {t t' : L2.TO} (h : PO X e t) (k : ∀ σ H Q, t' σ H Q → t σ H Q) : PO X e t' := ⟨fun pins s σ H Q I q => h.run pins s σ H Q I (k _ _ _ q)⟩
theorem tpart_none : TPart X P pv M W none none := ⟨po_none.imp fun σ H Q ⟨B, G, F, ρ, ts, s, k⟩ => k H F s fun _ z => z⟩
theorem tpart_some {e : Expr} {f : Fn'} (h : TO X P pv M W e (.tm .frz) f) : TPart X P pv M W (some e) (some f) :=
  ⟨(po_some h.pe).imp fun σ H Q ⟨B, G, F, ρ, ts, s, k⟩ => by
    refine ⟨B, G, F, ρ, ts, s, ?_⟩
    have k : PostP P B G F pv M σ ts W Q (f ρ >>= fun y => match y.1 with | .int i => .ok (some i, y.2) | _ => .bad) := k
    cases e1 : f ρ with
    | bad => rw [e1] at k; exact k
    | exc c xs ρ' => rw [e1] at k; exact k
    | ok x =>
      obtain ⟨d, ρ1⟩ := x
      rw [e1] at k
      cases d with
      | int i =>
        intro v H' F' s' _ hF
        have r := s'.w.rf_frz (d := .int i) (v := v) (List.mem_append_left _ List.mem_cons_self)
        cases r
        exact ⟨i, rfl, k H' F' s'.drop1 hF⟩
      | none => exact k.elim
      | bool i => exact k.elim
      | str i => exact k.elim
      | list i => exact k.elim
      | tuple i => exact k.elim
      | dict i => exact k.elim⟩
def sliF (fa : Fn') (fl fh : Option Fn') : Fn' := fun ρ => fa ρ >>= fun x => partF fl x.2 >>= fun l => partF fh l.2 >>= fun h => ofO ((sliD l.1 h.1 x.1).map fun z => (z, h.2))
def PureP (f : Option Fn') : Prop := ∀ ρ l ρ', partF f ρ = .ok (l, ρ') → ρ' = ρ
theorem TO.sli {a : Expr} {lo hi : Option Expr} {oa : Om} {fa : Fn'} {fl fh : Option Fn'} {p2 pos : Pos} (hK : X.K = P.K) (ha : TO X P pv M W a oa fa) (hl : TPart X P pv M W lo fl) (hh : TPart X P pv M W hi fh) (pf : ∀ i, oa = .sl i → PureP fl ∧ PureP fh) (la : oa.flat M = true) :
    TO X P pv M W (.Subscript a (.Slice lo hi none p2) pos) (.tm .frz) (sliF fa fl fh) :=
  ⟨(pe_slice (sliV hK) ha.pe hl.po hh.po).imp fun σ H Q ⟨B, G, F, ρ, ts, s, k⟩ => by
    refine ⟨B, G, F, ρ, ts, s, ?_⟩
    have k : Post P B G F pv M σ ts (.tm .frz) W Q (fa ρ >>= fun x => partF fl x.2 >>= fun l => partF fh l.2 >>= fun h => ofO ((sliD l.1 h.1 x.1).map fun z => (z, h.2))) := k
    cases e1 : fa ρ with
    | bad => rw [e1] at k; exact k
    | exc c xs ρ' => rw [e1] at k; exact k
    | ok x =>
      obtain ⟨d1, ρ1⟩ := x
      rw [e1] at k
      intro v1 H1 F1 s1 h1 hF1
      refine ⟨B, G, F1, ρ1, _, s1, ?_⟩
      have k : Post P B G F pv M σ ts (.tm .frz) W Q (partF fl ρ1 >>= fun l => partF fh l.2 >>= fun h => ofO ((sliD l.1 h.1 d1).map fun z => (z, h.2))) := k
      cases e2 : partF fl ρ1 with
      | bad => rw [e2] at k; exact k
      | exc c xs ρ' =>
        rw [e2] at k
        intro cls dx H' F' s' hx hF'
        exact k cls dx H' F' s'.dropL hx fun a z => hF' a (hF1 a z)
      | ok y =>
        obtain ⟨l, ρ2⟩ := y
        rw [e2] at k
        intro H2 F2 s2 hF2
        refine ⟨B, G, F2, ρ2, _, s2, ?_⟩
        have k : Post P B G F pv M σ ts (.tm .frz) W Q (partF fh ρ2 >>= fun h => ofO ((sliD l h.1 d1).map fun z => (z, h.2))) := k
        cases e3 : partF fh ρ2 with
        | bad => rw [e3] at k; exact k
        | exc c xs ρ' =>
          rw [e3] at k
          intro cls dx H' F' s' hx hF'
          exact k cls dx H' F' s'.dropL hx fun a z => hF' a (hF2 a (hF1 a z))
        | ok y =>
          obtain ⟨h, ρ3⟩ := y
          rw [e3] at k
          intro H3 F3 s3 hF3
          have k : Post P B G F pv M σ ts (.tm .frz) W Q (ofO ((sliD l h d1).map fun z => (z, ρ3))) := k
          cases e4 : sliD l h d1 with
          | none => rw [e4] at k; exact k.elim
          | some z =>
            rw [e4] at k
            refine ⟨B, G, F3, _, d1, z, s3.w, s3.opnd (fun e he => List.mem_append_left _ he) la h1 fun i hi => ?_, e4, fun v H' F' w' hF' => ?_⟩
            · have q := ha.sl i hi
              rw [q] at e1
              cases e1
              rw [(pf i hi).2 _ _ _ e3, (pf i hi).1 _ _ _ e2]
            · exact k v H' F' (s3.to w' : Stt P B G F' pv M ρ3 σ ((.frz, z, some v) :: (oa.ent d1 v1 ++ ts)) H').dropM trivial fun a z => hF' a (hF3 a (hF2 a (hF1 a z))), fun _ z => nomatch z⟩
/-! ### chains -/
def chainF (g g' : D → D → Option D) (fa fb fc : Fn') : Fn' := fun ρ => fa ρ >>= fun x => fb x.2 >>= fun y => match g x.1 y.1 with
  | some (.bool true) => fc y.2 >>= fun z => ofO ((g' y.1 z.1).map fun q => (q, z.2))
  | some (.bool false) => .ok (.bool false, y.2)
  | _ => .bad
theorem chain_ops {a b c : Expr} {fa fb fc : Fn'} (ha : TO X P pv M W a (.tm .frz) fa) (hb : TO X P pv M W b (.tm .frz) fb) (hc : TO X P pv M W c (.tm .frz) fc) {g g' : D → D → Option D} {σ : L2.St} {H : Hp} {Q : VK} (h : tO P pv M (.tm .frz) W (chainF g g' fa fb fc) σ H Q) :
    tChain (rV P.toPar g .frz) (rV P.toPar g' .frz) (tO P pv M (.tm .frz) W fa) (tO P pv M (.tm .frz) W fb) (tO P pv M (.tm .frz) W fc) σ H Q := by
  obtain ⟨B, G, F, ρ, ts, s, k⟩ := h
  refine ⟨B, G, F, ρ, ts, s, ?_⟩
  have k : Post P B G F pv M σ ts (.tm .frz) W Q (fa ρ >>= fun x => fb x.2 >>= fun y => match g x.1 y.1 with
    | some (.bool true) => fc y.2 >>= fun z => ofO ((g' y.1 z.1).map fun q => (q, z.2))
    | some (.bool false) => .ok (.bool false, y.2)
    | _ => .bad) := k
  cases e1 : fa ρ with
  | bad => rw [e1] at k; exact k
  | exc c xs ρ' => rw [e1] at k; exact k
  | ok x =>
    obtain ⟨d1, ρ1⟩ := x
    rw [e1] at k
    intro v1 H1 F1 s1 h1 hF1
    refine ⟨B, G, F1, ρ1, _, s1, ?_⟩
    have k : Post P B G F pv M σ ts (.tm .frz) W Q (fb ρ1 >>= fun y => match g d1 y.1 with
      | some (.bool true) => fc y.2 >>= fun z => ofO ((g' y.1 z.1).map fun q => (q, z.2))
      | some (.bool false) => .ok (.bool false, y.2)
      | _ => .bad) := k
    cases e2 : fb ρ1 with
    | bad => rw [e2] at k; exact k
    | exc c xs ρ' =>
      rw [e2] at k
      intro cls dx H' F' s' hx hF'
      exact k cls dx H' F' s'.dropL hx fun a z => hF' a (hF1 a z)
    | ok y =>
      obtain ⟨d2, ρ2⟩ := y
      rw [e2] at k
      intro v2 H2 F2 s2 h2 hF2
      have k : Post P B G F pv M σ ts (.tm .frz) W Q (match g d1 d2 with
        | some (.bool true) => fc ρ2 >>= fun z => ofO ((g' d2 z.1).map fun q => (q, z.2))
        | some (.bool false) => .ok (.bool false, ρ2)
        | _ => .bad) := k
      have r1 : RF P.toPar H2 F2 v1 d1 := s2.w.rf_frz (List.mem_append_left _ (List.mem_append_right _ (List.mem_append_left _ List.mem_cons_self)))
      have r2 : RF P.toPar H2 F2 v2 d2 := s2.w.rf_frz (List.mem_append_left _ (List.mem_append_left _ List.mem_cons_self))
      cases e3 : g d1 d2 with
      | none => rw [e3] at k; exact k.elim
      | some z =>
        rw [e3] at k
        cases z with
        | bool b =>
          refine ⟨B, G, F2, _, d1, d2, _, s2.w, r1.vw, r2.vw, e3, fun v H' F' w' hF' => ?_⟩
          have s3 : Stt P B G F' pv M ρ2 σ ((.frz, .bool b, some v) :: ((.frz, d2, some v2) :: ((.frz, d1, some v1) :: ts))) H' := s2.to w'
          have rb : RF P.toPar H' F' v (.bool b) := w'.rf_frz List.mem_cons_self
          cases rb
          refine ⟨b, rfl, ?_⟩
          cases b with
          | false =>
            exact (if_neg Bool.false_ne_true).mpr (k (.bl false) H' F' s3.drop2.drop2 trivial fun a z => hF' a (hF2 a (hF1 a z)))
          | true =>
            refine (if_pos rfl).mpr ⟨B, G, F', ρ2, _, s3.drop1, ?_⟩
            have k : Post P B G F pv M σ ts (.tm .frz) W Q (fc ρ2 >>= fun z => ofO ((g' d2 z.1).map fun q => (q, z.2))) := k
            cases e4 : fc ρ2 with
            | bad => rw [e4] at k; exact k
            | exc c xs ρ' =>
              rw [e4] at k
              intro cls dx H'' F'' s' hx hF''
              exact k cls dx H'' F'' s'.drop1.drop1 hx fun a z => hF'' a (hF' a (hF2 a (hF1 a z)))
            | ok y =>
              obtain ⟨d3, ρ3⟩ := y
              rw [e4] at k
              intro v3 H3 F3 s4 _ hF3
              have k : Post P B G F pv M σ ts (.tm .frz) W Q (ofO ((g' d2 d3).map fun q => (q, ρ3))) := k
              cases e5 : g' d2 d3 with
              | none => rw [e5] at k; exact k.elim
              | some q =>
                rw [e5] at k
                have r3 : RF P.toPar H3 F3 v2 d2 := s4.w.rf_frz (List.mem_append_left _ (List.mem_cons_of_mem _ List.mem_cons_self))
                have r4 : RF P.toPar H3 F3 v3 d3 := s4.w.rf_frz (List.mem_append_left _ List.mem_cons_self)
                refine ⟨B, G, F3, _, d2, d3, q, s4.w, r3.vw, r4.vw, e5, fun w2 H5 F5 w5 hF5 => ?_⟩
                have s5 : Stt P B G F5 pv M ρ3 σ ((.frz, q, some w2) :: ((.frz, d3, some v3) :: ((.frz, d2, some v2) :: ((.frz, d1, some v1) :: ts)))) H5 := s4.to w5
                exact k w2 H5 F5 s5.drop2.drop2.drop2 trivial fun a z => hF5 a (hF3 a (hF' a (hF2 a (hF1 a z))))
        | none => exact k.elim
        | int i => exact k.elim
        | str i => exact k.elim
        | list i => exact k.elim
        | tuple i => exact k.elim
        | dict i => exact k.elim
theorem TO.chain {a b c : Expr} {op op' : CmpOp} {fa fb fc : Fn'} {pos : Pos} {g g' : D → D → Option D} (hg : OpR X (compareOp op) (rV P.toPar g .frz)) (hg' : OpR X (compareOp op') (rV P.toPar g' .frz)) (hm : lastMarks [op, op'] [b, c] = false)
    (ha : TO X P pv M W a (.tm .frz) fa) (hb : TO X P pv M W b (.tm .frz) fb) (hc : TO X P pv M W c (.tm .frz) fc) : TO X P pv M W (.Compare a [op, op'] [b, c] pos) (.tm .frz) (chainF g g' fa fb fc) :=
  ⟨(pe_chain hg hg' ha.pe hb.pe hc.pe hm).imp fun σ H Q h => chain_ops ha hb hc h, fun _ z => nomatch z⟩
theorem tt_chain {a b c : Expr} {op op' : CmpOp} {fa fb fc : Fn'} {pos : Pos} {g g' : D → D → Option D} (hg : OpR X (compareOp op) (rV P.toPar g .frz)) (hg' : OpR X (compareOp op') (rV P.toPar g' .frz)) (hm : lastMarks [op, op'] [b, c] = false)
    (ha : TO X P pv M W a (.tm .frz) fa) (hb : TO X P pv M W b (.tm .frz) fb) (hc : TO X P pv M W c (.tm .frz) fc) : PT X (.Compare a [op, op'] [b, c] pos) (tT P pv M W (chainF g g' fa fb fc)) :=
  (pt_chain hg hg' ha.pe hb.pe hc.pe hm).imp fun σ H Q h => chain_ops ha hb hc (tT_tO h)
end
end Z

set_option maxRecDepth 100000
set_option maxHeartbeats 1000000
namespace Z
open PySem PySem.Spec PyProof.Rows L2

/-! ### a callee's world -/
theorem World.call {P : Par} {B H : Hp} {G F : Addr → Prop} {as rest : List Ent} (w : World P B G F (as ++ rest) H) :
    ∃ B' G', World P B' G' F as H ∧ ∀ F' bs H', World P B' G' F' bs H' → (∀ a, F a → F' a) → World P B G F' (bs ++ rest) H' := by
  obtain ⟨S, h, nd, k⟩ := w.ents
  obtain ⟨S1, S2, rfl, h1, h2⟩ := h.split
  have nd' := List.nodup_append.mp nd
  have own1 := h1.own
  have own2 := h2.own
  refine ⟨fun a => if a ∈ S1 then none else H a, fun a => a ∈ S2 ∨ G a, ⟨⟨S1, h1, nd'.1, fun a ha => ?_⟩, fun a fa => ?_, w.fH, fun a g => ?_, fun a o e => ?_⟩, fun F' bs H' w' hF => ?_⟩
  · have q := k a (List.mem_append_left _ ha)
    exact ⟨q.1, fun g => g.elim (fun z => nd'.2.2 a ha a z rfl) q.2.1, if_pos ha⟩
  · intro g
    rcases g with g | g
    · exact (k a (List.mem_append_right _ g)).1 fa
    · exact w.fG a fa g
  · rcases g with g | g
    · obtain ⟨o, e, _⟩ := own2 a g
      exact ⟨o, (if_neg fun z => nd'.2.2 a z a g rfl).trans e⟩
    · obtain ⟨o, e⟩ := w.gB a g
      exact ⟨o, (if_neg fun z => by have := (k a (List.mem_append_left _ z)).2.2; rw [e] at this; cases this).trans (w.base a o e)⟩
  · by_cases z : a ∈ S1
    · have e' : (none : Option HO) = some o := (if_pos z).symm.trans e
      cases e'
    · exact (if_neg z).symm.trans e
  · obtain ⟨S', h', nd2, k'⟩ := w'.ents
    have keep : ∀ a o, a ∉ S1 → H a = some o → H' a = some o := fun a o z e => w'.base a o ((if_neg z).trans e)
    have st : Stay F H H' := fun a o e c => by
      by_cases z : a ∈ S1
      · obtain ⟨o', e', mu⟩ := own1 a z
        rw [e] at e'; cases e'
        rcases c with c | c
        · exact absurd c (k a (List.mem_append_left _ z)).1
        · exact absurd mu c
      · exact keep a o z e
    have s2 : ∀ a ∈ S2, a ∉ S1 := fun a ha z => nd'.2.2 a z a ha rfl
    have h2' := h2.stay st hF fun a ha => by
      obtain ⟨o, e, _⟩ := own2 a ha
      rw [e]
      exact keep a o (s2 a ha) e
    have bk : ∀ a, B a ≠ none → a ∉ S1 := fun a nb z => nb (k a (List.mem_append_left _ z)).2.2
    refine ⟨⟨S' ++ S2, h'.append h2', List.nodup_append.mpr ⟨nd2, nd'.2.1, fun a ha b hb e => ?_⟩, fun a ha => ?_⟩, fun a fa g => w'.fG a fa (.inr g), w'.fH, w.gB, fun a o e => keep a o (bk a (by rw [e]; simp)) (w.base a o e)⟩
    · subst e
      exact (k' a ha).2.1 (.inl hb)
    · rcases List.mem_append.mp ha with ha | ha
      · have q := k' a ha
        refine ⟨q.1, fun g => q.2.1 (.inr g), ?_⟩
        cases e : B a with
        | none => rfl
        | some o =>
          have q3 := q.2.2
          have e3 : (if a ∈ S1 then none else H a) = some o := (if_neg (bk a (by rw [e]; simp))).trans (w.base a o e)
          rw [e3] at q3; cases q3
      · have q := k a (List.mem_append_right _ ha)
        exact ⟨fun fa => w'.fG a fa (.inl ha), q.2⟩
theorem World.dead_cons {P : Par} {B H : Hp} {G F : Addr → Prop} {es : List Ent} {d : D} {v : Option V} (w : World P B G F es H) : World P B G F ((.dead, d, v) :: es) H := by
  obtain ⟨S, h, nd, k⟩ := w.ents
  exact ⟨⟨[] ++ S, .cons .dead h, nd, k⟩, w.fG, w.fH, w.gB, w.base⟩
theorem list_set_self {α : Type} : ∀ {l : List α} {i : Nat} {x : α}, l[i]? = some x → l.set i x = l
  | [], _, _, h => by simp at h
  | a :: l, 0, x, h => by simp at h; subst h; rfl
  | a :: l, i + 1, x, h => by simp only [List.set_cons_succ]; rw [list_set_self (by simpa using h)]
section
variable {P : Par2} {B H : Hp} {G F : Addr → Prop} {pv : List (Nat × V)} {M : List Md} {ρ : Env'} {σ : L2.St} {ts : List Ent}
theorem take_slot {i : Nat} {m : Md} (w : World P.toPar B G F (ts ++ slots M ρ σ) H) (hm : M[i]? = some m) (h1 : ρ.length = M.length) (h2 : σ.length = M.length) : World P.toPar B G F ((m, ρ.getD i .none, σ.getD i none) :: (ts ++ slots (M.set i .dead) ρ σ)) H := by
  obtain ⟨l1, l2, e1, e2⟩ := slots_cut hm h1 h2
  have hi : i < M.length := (List.getElem?_eq_some_iff.mp hm).1
  have e3 := e2 .dead (ρ.getD i .none) (σ.getD i none)
  have er : ρ.set i (ρ.getD i .none) = ρ := list_set_self (by rw [List.getD_eq_getElem?_getD, List.getElem?_eq_getElem (by omega)]; rfl)
  have es : σ.set i (σ.getD i none) = σ := list_set_self (by rw [List.getD_eq_getElem?_getD, List.getElem?_eq_getElem (by omega)]; rfl)
  rw [er, es] at e3
  rw [e1] at w
  rw [e3]
  refine (w.dead_cons (d := ρ.getD i .none) (v := σ.getD i none)).perm ?_
  refine .trans (.cons _ (.trans (by rw [← List.append_assoc]) List.perm_middle)) (.trans (.swap _ _ _) (.cons _ ?_))
  rw [← List.append_assoc]
  exact List.perm_middle.symm
theorem put_slot {i : Nat} {m : Md} {d : D} (w : World P.toPar B G F ((m, d, σ.getD i none) :: (ts ++ slots (M.set i .dead) ρ σ)) H) (hm : M[i]? = some m) (h1 : ρ.length = M.length) (h2 : σ.length = M.length) : World P.toPar B G F (ts ++ slots M (ρ.set i d) σ) H := by
  have hi : i < M.length := (List.getElem?_eq_some_iff.mp hm).1
  have hm' : (M.set i .dead)[i]? = some .dead := by simp [hi]
  obtain ⟨l1, l2, e1, e2⟩ := slots_cut hm' (ρ := ρ) (σ := σ) (by simpa using h1) (by simpa using h2)
  have e3 := e2 m d (σ.getD i none)
  have es : σ.set i (σ.getD i none) = σ := list_set_self (by rw [List.getD_eq_getElem?_getD, List.getElem?_eq_getElem (by omega)]; rfl)
  rw [es, List.set_set, list_set_self hm] at e3
  rw [e1] at w
  rw [e3]
  have w2 : World P.toPar B G F ((.dead, ρ.getD i .none, σ.getD i none) :: (m, d, σ.getD i none) :: (ts ++ (l1 ++ l2))) H := w.perm (by
    refine .trans (.cons _ (.trans (by rw [← List.append_assoc]) List.perm_middle)) ?_
    rw [List.append_assoc]
    exact .swap _ _ _)
  refine w2.drop1.perm ?_
  rw [← List.append_assoc, ← List.append_assoc]
  exact List.perm_middle.symm
end
/-- the parameters' entries -/
def zipE : List Md → List D → List V → List Ent
  | m :: ms, d :: ds, v :: vs => (m, d, some v) :: zipE ms ds vs
  | _, _, _ => []
/-- those that are handed back -/
def ioE : List Md → List D → List V → List Ent
  | .frz :: ms, _ :: ds, _ :: vs => ioE ms ds vs
  | m :: ms, d :: ds, v :: vs => (m, d, some v) :: ioE ms ds vs
  | _, _, _ => []
theorem World.args {P : Par} {B H : Hp} {G F : Addr → Prop} : ∀ {ms : List Md} {ds : List D} {vs : List V} {es : List Ent}, World P B G F (ioE ms ds vs ++ es) H →
    (∀ (k : Nat) (d : D) (v : V), ms[k]? = some .frz → ds[k]? = some d → vs[k]? = some v → RF P H F v d) → World P B G F (zipE ms ds vs ++ es) H
  | [], _, _, _, w, _ => by simpa [zipE, ioE] using w
  | m :: ms, [], _, _, w, _ => by simpa [zipE, ioE] using w
  | m :: ms, d :: ds, [], _, w, _ => by cases m <;> simpa [zipE, ioE] using w
  | m :: ms, d :: ds, v :: vs, es, w, h => by
    by_cases hm : m = .frz
    · subst hm
      have w' : World P B G F (ioE ms ds vs ++ es) H := w
      exact (World.args w' fun k d v h1 h2 h3 => h (k + 1) d v (by simpa using h1) (by simpa using h2) (by simpa using h3)).push (h 0 d v rfl rfl rfl)
    · have e : ioE (m :: ms) (d :: ds) (v :: vs) = (m, d, some v) :: ioE ms ds vs := by cases m <;> first | rfl | exact absurd rfl hm
      rw [e] at w
      have w' : World P B G F (ioE ms ds vs ++ ((m, d, some v) :: es)) H := w.perm List.perm_middle.symm
      have w2 := World.args w' fun k d v h1 h2 h3 => h (k + 1) d v (by simpa using h1) (by simpa using h2) (by simpa using h3)
      exact w2.perm List.perm_middle
theorem World.ios {P : Par} {B H : Hp} {G F : Addr → Prop} : ∀ {ms : List Md} {ds : List D} {vs : List V} {es : List Ent}, World P B G F (zipE ms ds vs ++ es) H → World P B G F (ioE ms ds vs ++ es) H
  | [], _, _, _, w => by simpa [zipE, ioE] using w
  | m :: ms, [], _, _, w => by cases m <;> simpa [zipE, ioE] using w
  | m :: ms, d :: ds, [], _, w => by cases m <;> simpa [zipE, ioE] using w
  | m :: ms, d :: ds, v :: vs, es, w => by
    by_cases hm : m = .frz
    · subst hm
      have w' : World P B G F (zipE ms ds vs ++ es) H := w.drop1
      show World P B G F (ioE ms ds vs ++ es) H
      exact World.ios w'
    · have e : ioE (m :: ms) (d :: ds) (v :: vs) = (m, d, some v) :: ioE ms ds vs := by cases m <;> first | rfl | exact absurd rfl hm
      rw [e]
      have w' : World P B G F (zipE ms ds vs ++ ((m, d, some v) :: es)) H := w.perm List.perm_middle.symm
      exact (World.ios w').perm List.perm_middle
/-! ### what a def promises -/
abbrev FnV := List D → R (D × List D)
def spT (P : Par2) (ms : List Md) (mr : Md) (fn : FnV) : Sp := fun vs H Q E => vs.length = ms.length ∧ ∃ B G F ds, ds.length = ms.length ∧ World P.toPar B G F (zipE ms ds vs) H ∧
  match fn ds with
  | .ok (d, ds') => ds'.length = ms.length ∧ ∀ v H' F', World P.toPar B G F' ((mr, d, some v) :: ioE ms ds' vs) H' → (∀ a, F a → F' a) → Q v H'
  | .exc c xs _ => ∀ cls dx H' F', World P.toPar B G F' [] H' → ExcAt P H' F' c xs cls dx → (∀ a, F a → F' a) → E cls dx H'
  | .bad => False
structure FnT (Pr : Program) (w : PySem.World) (K : PySem.W.Frag) (mg : Str → Option Value) (base : Heap) (k : Nat) (f : Addr) (fd : FuncData) (ps : List Str) (sp : Sp) : Prop where
  len : ∀ vs H Q E, sp vs H Q E → vs.length = ps.length
  run : ∀ (A : Around) (outer : List Env) (s : Shared) (H : Hp) (args : Args) (us : List Value) (vs : List V) (Q : VK) (E : XK), Room k A → A.guards = some [] → Env0 Pr w K mg base A outer s H → BindsTo s fd args (ps.zip us) → Vals vs us → sp vs H Q E →
    codeAny (model Pr w) A (.call (.ref f) args) (CR (L2.CX Pr w) outer Pr w H s Q E) s
end Z

set_option maxRecDepth 100000
set_option maxHeartbeats 1000000
namespace Z
open PySem PySem.Spec PyProof.Rows L2

/-- what a body may lean on -/
structure CtxOk (X : Cx) (P : Par2) (k : Nat) : Prop where
  hK : X.K = P.K
  hs : ∃ o, X.base.get? sysModules = some o
  hg : X.A.guards = some []
  hr : Room k X.A
  hc : X.calm = true
theorem CtxOk.u66 {X : Cx} {P : Par2} {k : Nat} (c : CtxOk X P k) : X.A.units + 66 < cLine := by have := c.hr.un; omega
/-- THE RULE of a def's body -/
theorem fnT_of {Pr : Program} {w : PySem.World} {P : Par2} {mg : Str → Option Value} {base : Heap} {k : Nat} {x qual : Str} {st : Stmt} {f : Addr} {fd : FuncData} {N ps : List Str} {sp : Sp} (F : L2.Fun P.K x qual st f fd) (S : FnScope N ps (defScope st)) (len : ∀ vs H Q E, sp vs H Q E → vs.length = ps.length)
    (hsys : ∃ o, base.get? sysModules = some o)
    (hbody : ∀ (cdv : Value) (A : Around) (outer : List Env) (s : Shared) (H : Hp) (vs : List V) (Q : VK) (E : XK), CtxOk (cxOf (L2.CX Pr w) Pr w P.K mg base N qual (defScope st) f cdv A outer s H E) P k → sp vs H Q E →
      ∃ t, PSs (cxOf (L2.CX Pr w) Pr w P.K mg base N qual (defScope st) f cdv A outer s H E) (defBody st) t ∧ t { nx := fun _ H' => Q .non H', rt := Q } (start N vs) H) : FnT Pr w P.K mg base (k + 1) f fd ps sp := by
  obtain ⟨oc, od, kV, doc, pm, an, cdv, ct, osl, rfl, lk, hcd⟩ := F.ex
  refine ⟨len, fun A outer s H args us vs Q E hr hg e0 hb r hsp => ?_⟩
  have hl := len _ _ _ _ hsp
  have kk : ∀ b o, base.get? b = some o → s.heap.get? b = some o := fun b o e => (e0.bs b o e).1
  have hkind : ∀ y ∈ ps.zip us, (defScope st).names.lookup y.1 = some .local ∨ ((defScope st).names.lookup y.1 = some .cell ∧ ((cellsFrom (s.heap.objs.size + 1) (defScope st).names []).lookup y.1).isSome = true) := fun y hy =>
    (S.par y.1 (List.of_mem_zip (b := y.2) hy).1).imp id fun q => ⟨q, PySem.W.cellsFrom_some _ _ _ (.inl q)⟩
  refine codeAny_call_function hr.depth (e0.mod.kin.keeps kk _ _ lk) rfl S.co S.gen rfl (PySem.W.codeRec_of (e0.mod.kin.keeps kk) hcd) (hb _ _ _ _ ?_)
  refine wpAny_newFunctionEnv_cells S.kind hkind fun env he s1 xx => ?_
  subst he
  refine ⟨(e0.mod.nolimit.keeps kk).keeps xx.toInCall.keep, codeAny_func ?_⟩
  let X := cxOf (L2.CX Pr w) Pr w P.K mg base N qual (defScope st) f cdv A outer s H E
  obtain ⟨t, ht, hq⟩ := hbody cdv A outer s H vs Q E ⟨rfl, hsys, hg, hr.deeper _, rfl⟩ hsp
  have I : L2.Inv X [] (start N vs) H s1 := inv_start S hr.hd e0 hl r xx
  refine wpAny_mono (ht.run [] s1 (start N vs) H _ I hq) (fun fl s' hs => ?_) fun e s' hs => hs
  have fin : ∀ {σ' : L2.St} {H' : Hp} {v : V} {u : Value}, L2.Inv X [] σ' H' s' → RelV v u → Q v H' → CE outer Pr w H s Q u s' := fun J rv q => ⟨_, _, J.os, J.bare, J.base, J.hok, rv, q⟩
  match fl, hs with
  | .ret u, ⟨v, σ', H', J, rv, q⟩ => exact fin J rv q
  | .next, ⟨σ', H', J, q⟩ => exact fin (v := V.non) (u := Value.none) J rfl q
  | .brk, ⟨_, _, _, q⟩ => exact q.elim
  | .cont, ⟨_, _, _, q⟩ => exact q.elim
/-- the callee runs; E at the caller's slots -/
theorem runT {X : Cx} {P : Par2} {k k' : Nat} {f : Addr} {fd : FuncData} {ps : List Str} {sp : Sp} {W : WX} {pins : List (Addr × Obj)} {σ : L2.St} {H : Hp} {s : Shared} {Q : VK} {us ws : List Value} {ks : List Str} {as : List Value} {vs : List V} (C : CtxOk X P k') (hk : k ≤ k')
    (F : FnT X.prog X.w X.K X.mg X.base k f fd ps sp) (tk : Takes X W) (hb : BindsTo s fd ⟨us, ks.zip ws⟩ (ps.zip as)) (I : L2.Inv X pins σ H s) (r : Vals vs as) (h : sp vs H Q fun cls d H => W cls d σ H) :
    wpAny (model X.prog X.w) X.A (call (.ref f) us (ks.zip ws)) (EP X pins σ Q) X.xe s := by
  refine wpAny_call (codeAny_mono (F.run X.A X.stack s H ⟨us, ks.zip ws⟩ as vs Q _ (C.hr.mono hk) C.hg I.env0 hb r h) fun r s' hq => ?_)
  match r, hq with
  | .error e, hq => exact passAt tk σ pins H s e s' I hq
  | .ok (.ret u), hq => exact I.after hq
  | .ok .next, hq => exact hq.elim
  | .ok .brk, hq => exact hq.elim
  | .ok .cont, hq => exact hq.elim
/-- keywords' values, told as arguments are -/
structure TKs (X : Cx) (P : Par2) (pv : List (Nat × V)) (M : List Md) (W : WX) (kws : List Keyword) (os : List Om) (f : FnA) : Prop where
  pk : PK X kws (tAs P pv M os W f)
  len : ∀ ρ ds ρ', f ρ = .ok (ds, ρ') → ds.length = os.length
  sl : ∀ ρ ds ρ', f ρ = .ok (ds, ρ') → ∀ (k i : Nat), os[k]? = some (Om.sl i) → ds[k]? = some (ρ'.getD i PyData.none)
theorem _root_.L2.PK.imp {X : Cx} {e : List Keyword} {t t' : TA} (h : PK X e t) (k : ∀ σ H Q, t' σ H Q → t σ H Q) : PK X e t' := ⟨fun pos pins s σ H Q I q => h.run pos pins s σ H Q I (k _ _ _ q)⟩
section
variable {X : Cx} {P : Par2} {pv : List (Nat × V)} {M : List Md} {W : WX}
/-- one argument ahead of others -/
theorem cons_args {o : Om} {os : List Om} {fa : Fn'} {fr : FnA} {σ : L2.St} {H : Hp} {Q : List V → Hp → Prop} (h : tAs P pv M (o :: os) W (consA fa fr) σ H Q) : tCons (tO P pv M o W fa) (tAs P pv M os W fr) σ H Q := by
  obtain ⟨B, G, F, ρ, ts, s, k⟩ := h
  refine ⟨B, G, F, ρ, ts, s, ?_⟩
  have k : PostA P B G F pv M σ ts (o :: os) W Q (fa ρ >>= fun x => fr x.2 >>= fun y => .ok (x.1 :: y.1, y.2)) := k
  cases e1 : fa ρ with
  | bad => rw [e1] at k; exact k
  | exc c xs ρ' => rw [e1] at k; exact k
  | ok x =>
    obtain ⟨d1, ρ1⟩ := x
    rw [e1] at k
    intro v1 H1 F1 s1 h1 hF1
    refine ⟨B, G, F1, ρ1, _, s1, ?_⟩
    have k : PostA P B G F pv M σ ts (o :: os) W Q (fr ρ1 >>= fun y => .ok (d1 :: y.1, y.2)) := k
    cases e2 : fr ρ1 with
    | bad => rw [e2] at k; exact k
    | exc c xs ρ' =>
      rw [e2] at k
      intro cls dx H' F' s' hx hF'
      exact k cls dx H' F' s'.dropL hx fun a z => hF' a (hF1 a z)
    | ok y =>
      obtain ⟨ds, ρ2⟩ := y
      rw [e2] at k
      intro vs H2 F2 s2 h2 hF2
      refine k (v1 :: vs) H2 F2 (s2.to (s2.w.perm ?_)) (.cons h1 h2) fun a z => hF2 a (hF1 a z)
      show (entsO os ds vs ++ (o.ent d1 v1 ++ ts) ++ slots M ρ2 σ).Perm (o.ent d1 v1 ++ entsO os ds vs ++ ts ++ slots M ρ2 σ)
      rw [← List.append_assoc (entsO os ds vs)]
      exact ((List.perm_append_comm.append_right ts).append_right _)
theorem consA_len {o : Om} {os : List Om} {fa : Fn'} {fr : FnA} (hl : ∀ ρ ds ρ', fr ρ = .ok (ds, ρ') → ds.length = os.length) : ∀ ρ ds ρ', consA fa fr ρ = .ok (ds, ρ') → ds.length = (o :: os).length := fun ρ ds ρ' h => by
  obtain ⟨x, e1, h⟩ := R.ok_of_bind h
  obtain ⟨y, e2, h⟩ := R.ok_of_bind h
  cases h
  simp [hl _ _ _ e2]
theorem consA_sl {o : Om} {os : List Om} {fa : Fn'} {fr : FnA} (ha : ∀ i, o = .sl i → fa = rdVar i) (pf : ∀ i, o = .sl i → PureA fr) (hs : ∀ ρ ds ρ', fr ρ = .ok (ds, ρ') → ∀ (k i : Nat), os[k]? = some (Om.sl i) → ds[k]? = some (ρ'.getD i PyData.none)) :
    ∀ ρ ds ρ', consA fa fr ρ = .ok (ds, ρ') → ∀ (k i : Nat), (o :: os)[k]? = some (Om.sl i) → ds[k]? = some (ρ'.getD i PyData.none) := fun ρ ds ρ' h k i z => by
  obtain ⟨x, e1, h⟩ := R.ok_of_bind h
  obtain ⟨y, e2, h⟩ := R.ok_of_bind h
  cases h
  cases k with
  | zero =>
    simp only [List.getElem?_cons_zero, Option.some.injEq] at z ⊢
    rw [ha i z] at e1
    cases e1
    rw [pf i z _ _ _ e2]
  | succ k =>
    simp only [List.getElem?_cons_succ] at z ⊢
    exact hs _ _ _ e2 k i z
theorem TKs.nil : TKs X P pv M W [] [] nilA :=
  ⟨pk_nil.imp fun σ H Q ⟨B, G, F, ρ, ts, s, k⟩ => k [] H F s .nil fun _ z => z, fun ρ ds ρ' h => by cases h; rfl, fun ρ ds ρ' h k i z => by simp at z⟩
theorem TKs.cons {nm : Option Str} {e : Expr} {kpos : Pos} {kws : List Keyword} {o : Om} {os : List Om} {fa : Fn'} {fr : FnA} (ha : TO X P pv M W e o fa) (hr : TKs X P pv M W kws os fr) (pf : ∀ i, o = .sl i → PureA fr) : TKs X P pv M W (⟨nm, e, kpos⟩ :: kws) (o :: os) (consA fa fr) :=
  ⟨(pk_cons ha.pe hr.pk).imp fun σ H Q h => cons_args h, consA_len hr.len, consA_sl ha.sl pf hr.sl⟩
/-- positional arguments, then keywords -/
def appA (fa fk : FnA) : FnA := fun ρ => fa ρ >>= fun x => fk x.2 >>= fun y => .ok (x.1 ++ y.1, y.2)
theorem entsO_append : ∀ {os ps : List Om} {ds es : List D} {vs ws : List V}, os.length = ds.length → os.length = vs.length → entsO (os ++ ps) (ds ++ es) (vs ++ ws) = entsO os ds vs ++ entsO ps es ws
  | [], _, [], _, [], _, _, _ => rfl
  | o :: os, ps, d :: ds, es, v :: vs, ws, h1, h2 => by
    show o.ent d v ++ entsO (os ++ ps) (ds ++ es) (vs ++ ws) = o.ent d v ++ entsO os ds vs ++ entsO ps es ws
    rw [entsO_append (by simpa using h1) (by simpa using h2), List.append_assoc]
  | [], _, _ :: _, _, _, _, h, _ => by simp at h
  | [], _, [], _, _ :: _, _, _, h => by simp at h
  | _ :: _, _, [], _, _, _, h, _ => by simp at h
  | _ :: _, _, _ :: _, _, [], _, _, h => by simp at h
theorem Holds.append {σ : L2.St} : ∀ {os ps : List Om} {vs ws : List V}, Holds σ os vs → Holds σ ps ws → Holds σ (os ++ ps) (vs ++ ws)
  | _, _, _, _, .nil, s => s
  | _, _, _, _, .cons a r, s => .cons a (Holds.append r s)
theorem app_args {os ps : List Om} {fa fk : FnA} (hl : ∀ ρ ds ρ', fa ρ = .ok (ds, ρ') → ds.length = os.length) {σ : L2.St} {H : Hp} {Q : List V → List V → Hp → Prop} (h : tAs P pv M (os ++ ps) W (appA fa fk) σ H fun vs H => ∀ v1 v2, vs = v1 ++ v2 → v1.length = os.length → Q v1 v2 H) :
    tAs P pv M os W fa σ H fun v1 H1 => tAs P pv M ps W fk σ H1 fun v2 H2 => Q v1 v2 H2 := by
  obtain ⟨B, G, F, ρ, ts, s, k⟩ := h
  refine ⟨B, G, F, ρ, ts, s, ?_⟩
  have k : PostA P B G F pv M σ ts (os ++ ps) W (fun vs H => ∀ v1 v2, vs = v1 ++ v2 → v1.length = os.length → Q v1 v2 H) (fa ρ >>= fun x => fk x.2 >>= fun y => .ok (x.1 ++ y.1, y.2)) := k
  cases e1 : fa ρ with
  | bad => rw [e1] at k; exact k
  | exc c xs ρ' => rw [e1] at k; exact k
  | ok x =>
    obtain ⟨d1, ρ1⟩ := x
    rw [e1] at k
    intro v1 H1 F1 s1 h1 hF1
    refine ⟨B, G, F1, ρ1, _, s1, ?_⟩
    have k : PostA P B G F pv M σ ts (os ++ ps) W (fun vs H => ∀ v1 v2, vs = v1 ++ v2 → v1.length = os.length → Q v1 v2 H) (fk ρ1 >>= fun y => .ok (d1 ++ y.1, y.2)) := k
    cases e2 : fk ρ1 with
    | bad => rw [e2] at k; exact k
    | exc c xs ρ' =>
      rw [e2] at k
      intro cls dx H' F' s' hx hF'
      exact k cls dx H' F' s'.dropL hx fun a z => hF' a (hF1 a z)
    | ok y =>
      obtain ⟨d2, ρ2⟩ := y
      rw [e2] at k
      intro v2 H2 F2 s2 h2 hF2
      refine k (v1 ++ v2) H2 F2 (s2.to (s2.w.perm ?_)) (h1.append h2) (fun a z => hF2 a (hF1 a z)) v1 v2 rfl h1.length.symm
      rw [entsO_append (hl _ _ _ e1).symm h1.length, ← List.append_assoc]
      exact ((List.perm_append_comm.append_right ts).append_right _)
end
end Z

set_option maxRecDepth 100000
set_option maxHeartbeats 1000000
namespace Z
open PySem PySem.Spec PyProof.Rows L2

/-- parameters that are handed back stand in slots of the caller's -/
def ioOk : List Md → List (Option Nat) → List Md → Bool
  | [], [], _ => true
  | m :: ms, none :: io, M => decide (m = .frz) && ioOk ms io M
  | m :: ms, some i :: io, M => decide (m ≠ .frz) && decide (m ≠ .dead) && decide (M[i]? = some m) && ioOk ms io (M.set i .dead)
  | _, _, _ => false
def killIo : List (Option Nat) → List Md → List Md
  | [], M => M
  | none :: io, M => killIo io M
  | some i :: io, M => killIo io (M.set i .dead)
def setIo : List (Option Nat) → List D → Env' → Env'
  | none :: io, _ :: ds, ρ => setIo io ds ρ
  | some i :: io, d :: ds, ρ => (setIo io ds ρ).set i d
  | _, _, ρ => ρ
theorem setIo_len : ∀ (io : List (Option Nat)) (ds : List D) (ρ : Env'), (setIo io ds ρ).length = ρ.length
  | [], _, _ => rfl
  | none :: io, [], _ => rfl
  | some i :: io, [], _ => rfl
  | none :: io, d :: ds, ρ => setIo_len io ds ρ
  | some i :: io, d :: ds, ρ => by simp [setIo, setIo_len io ds ρ]
theorem killIo_len : ∀ (io : List (Option Nat)) (M : List Md), (killIo io M).length = M.length
  | [], _ => rfl
  | none :: io, M => killIo_len io M
  | some i :: io, M => by simp [killIo, killIo_len io]
/-- what the slots hold is what is handed in -/
inductive IoAt (ρ : Env') (σ : L2.St) : List (Option Nat) → List D → List V → Prop
  | nil : IoAt ρ σ [] [] []
  | none {io : List (Option Nat)} {d : D} {ds : List D} {v : V} {vs : List V} : IoAt ρ σ io ds vs → IoAt ρ σ (none :: io) (d :: ds) (v :: vs)
  | some {i : Nat} {io : List (Option Nat)} {ds : List D} {v : V} {vs : List V} : σ[i]? = some (some v) → IoAt ρ σ io ds vs → IoAt ρ σ (some i :: io) (ρ.getD i .none :: ds) (v :: vs)
section
variable {P : Par2} {B H : Hp} {G F : Addr → Prop} {ρ : Env'} {σ : L2.St}
theorem getD_of {α : Type} {l : List α} {i : Nat} {x d : α} (h : l[i]? = some x) : l.getD i d = x := by
  rw [List.getD_eq_getElem?_getD, h]; rfl
theorem takeIo : ∀ {ms : List Md} {io : List (Option Nat)} {M : List Md} {ds : List D} {vs : List V} {ts : List Ent}, ioOk ms io M = true → IoAt ρ σ io ds vs → ρ.length = M.length → σ.length = M.length →
    World P.toPar B G F (ts ++ slots M ρ σ) H → World P.toPar B G F (ioE ms ds vs ++ (ts ++ slots (killIo io M) ρ σ)) H
  | [], [], _, _, _, _, _, _, _, _, w => w
  | m :: ms, none :: io, M, _, _, ts, h, .none a, h1, h2, w => by
    simp only [ioOk, Bool.and_eq_true, decide_eq_true_eq] at h
    obtain ⟨rfl, h⟩ := h
    exact takeIo (ms := ms) (io := io) (M := M) h a h1 h2 w
  | m :: ms, some i :: io, M, _, _, ts, h, .some (v := v) (ds := ds) (vs := vs) e a, h1, h2, w => by
    simp only [ioOk, Bool.and_eq_true, decide_eq_true_eq] at h
    obtain ⟨⟨⟨hf, hd⟩, hm⟩, h⟩ := h
    have w1 := take_slot w hm h1 h2
    rw [getD_of e] at w1
    have w2 : World P.toPar B G F (((m, ρ.getD i .none, some v) :: ts) ++ slots (M.set i .dead) ρ σ) H := w1
    have w3 := takeIo h a (by simpa using h1) (by simpa using h2) w2
    have e1 : ioE (m :: ms) (ρ.getD i .none :: ds) (v :: vs) = (m, ρ.getD i .none, some v) :: ioE ms ds vs := by cases m <;> first | rfl | exact absurd rfl hf
    rw [e1]
    exact w3.perm List.perm_middle
  | [], _ :: _, _, _, _, _, h, _, _, _, _ => by simp [ioOk] at h
  | _ :: _, [], _, _, _, _, h, _, _, _, _ => by simp [ioOk] at h
theorem putIo : ∀ {ms : List Md} {io : List (Option Nat)} {M : List Md} {ds ds' : List D} {vs : List V} {ts : List Ent}, ioOk ms io M = true → IoAt ρ σ io ds vs → ds'.length = ms.length → ρ.length = M.length → σ.length = M.length →
    World P.toPar B G F (ioE ms ds' vs ++ (ts ++ slots (killIo io M) ρ σ)) H → World P.toPar B G F (ts ++ slots M (setIo io ds' ρ) σ) H
  | [], [], _, _, [], _, _, _, _, _, _, _, w => w
  | m :: ms, none :: io, M, _, d' :: ds', _, ts, h, .none a, hl, h1, h2, w => by
    simp only [ioOk, Bool.and_eq_true, decide_eq_true_eq] at h
    obtain ⟨rfl, h⟩ := h
    exact putIo (ms := ms) (io := io) (M := M) (ds' := ds') h a (by simpa using hl) h1 h2 w
  | m :: ms, some i :: io, M, _, d' :: ds', _, ts, h, .some (v := v) (ds := ds) (vs := vs) e a, hl, h1, h2, w => by
    simp only [ioOk, Bool.and_eq_true, decide_eq_true_eq] at h
    obtain ⟨⟨⟨hf, hd⟩, hm⟩, h⟩ := h
    have e1 : ioE (m :: ms) (d' :: ds') (v :: vs) = (m, d', some v) :: ioE ms ds' vs := by cases m <;> first | rfl | exact absurd rfl hf
    rw [e1] at w
    have w1 : World P.toPar B G F (ioE ms ds' vs ++ (((m, d', some v) :: ts) ++ slots (killIo io (M.set i .dead)) ρ σ)) H := w.perm List.perm_middle.symm
    have w2 := putIo h a (by simpa using hl) (by simpa using h1) (by simpa using h2) w1
    refine put_slot (i := i) (m := m) (d := d') ?_ hm ((setIo_len _ _ _).trans h1) h2
    rw [getD_of e]
    exact w2
  | [], [], _, _, _ :: _, _, _, _, _, h, _, _, _ => by simp at h
  | _ :: _, _, _, _, [], _, _, _, _, h, _, _, _ => by simp at h
  | [], _ :: _, _, _, _, _, _, h, _, _, _, _, _ => by simp [ioOk] at h
  | _ :: _, [], _, _, _, _, _, h, _, _, _, _, _ => by simp [ioOk] at h
end
/-- in another order -/
def permL {α : Type} (dflt : α) (p : List Nat) (l : List α) : List α := p.map fun j => l.getD j dflt
theorem permL_len {α : Type} {dflt : α} {p : List Nat} {l : List α} : (permL dflt p l).length = p.length := by simp [permL]
/-- each parameter: its mode, where its slot is, the operand that comes -/
def argOk : List Md → List (Option Nat) → List Om → Bool
  | [], [], [] => true
  | .frz :: ms, none :: io, .tm .frz :: os => argOk ms io os
  | _ :: ms, some i :: io, .sl j :: os => decide (i = j) && argOk ms io os
  | _, _, _ => false
def callF (fn : FnV) (p : List Nat) (io : List (Option Nat)) (fa : FnA) : Fn' := fun ρ => fa ρ >>= fun x => match fn (permL .none p x.1) with
  | .ok (d, ds') => if ds'.length = io.length then .ok (d, setIo io ds' x.2) else .bad
  | .exc c xs _ => if io.all (·.isNone) = true then .exc c xs x.2 else .bad
  | .bad => .bad
theorem killIo_none : ∀ {io : List (Option Nat)} {M : List Md}, io.all (·.isNone) = true → killIo io M = M
  | [], _, _ => rfl
  | none :: io, M, h => killIo_none (io := io) (by simpa using h)
  | some _ :: _, _, h => by simp at h
theorem ioOk_len : ∀ {ms : List Md} {io : List (Option Nat)} {M : List Md}, ioOk ms io M = true → ms.length = io.length
  | [], [], _, _ => rfl
  | m :: ms, none :: io, M, h => by
    simp only [ioOk, Bool.and_eq_true, decide_eq_true_eq] at h
    simp [ioOk_len h.2]
  | m :: ms, some i :: io, M, h => by
    simp only [ioOk, Bool.and_eq_true, decide_eq_true_eq] at h
    simp [ioOk_len h.2]
  | [], _ :: _, _, h => by simp [ioOk] at h
  | _ :: _, [], _, h => by simp [ioOk] at h
section
variable {X : Cx} {P : Par2} {pv : List (Nat × V)} {M : List Md} {W : WX}
theorem io_of_arg {ρ : Env'} {σ : L2.St} : ∀ {ms : List Md} {io : List (Option Nat)} {os : List Om} {ds : List D} {vs : List V}, argOk ms io os = true → ds.length = os.length → vs.length = os.length →
    (∀ (j i : Nat), os[j]? = some (.sl i) → (∃ v, vs[j]? = some v ∧ σ[i]? = some (some v)) ∧ ds[j]? = some (ρ.getD i .none)) → IoAt ρ σ io ds vs
  | [], [], [], [], [], _, _, _, _ => .nil
  | m :: ms, none :: io, .tm m' :: os, d :: ds, v :: vs, h, h1, h2, k => by
    have h' : argOk ms io os = true := by
      cases m <;> cases m' <;> first | exact h | (simp [argOk] at h)
    exact .none (io_of_arg h' (by simpa using h1) (by simpa using h2) fun j i e => by simpa using k (j + 1) i (by simpa using e))
  | m :: ms, some i :: io, .sl j :: os, d :: ds, v :: vs, h, h1, h2, k => by
    have h' : i = j ∧ argOk ms io os = true := by
      cases m <;> simpa [argOk] using h
    obtain ⟨rfl, h'⟩ := h'
    obtain ⟨⟨v', e1, e2⟩, e3⟩ := k 0 i rfl
    simp only [List.getElem?_cons_zero, Option.some.injEq] at e1 e3
    subst e1 e3
    exact .some e2 (io_of_arg h' (by simpa using h1) (by simpa using h2) fun j i e => by simpa using k (j + 1) i (by simpa using e))
  | [], [], [], _ :: _, _, _, h, _, _ => by simp at h
  | [], [], [], [], _ :: _, _, _, h, _ => by simp at h
  | _ :: _, none :: _, .sl _ :: _, _, _, h, _, _, _ => by rename_i a b c d e; cases a <;> simp [argOk] at h
  | _ :: _, some _ :: _, .tm _ :: _, _, _, h, _, _, _ => by rename_i a b c d e f; cases a <;> simp [argOk] at h
  | _, _, _ :: _, [], _, _, h, _, _ => by simp at h
  | _, _, _ :: _, _ :: _, [], _, _, h, _ => by simp at h
  | [], [], _ :: _, _, _, h, _, _, _ => by simp [argOk] at h
  | [], _ :: _, _, _, _, h, _, _, _ => by simp [argOk] at h
  | _ :: _, [], _, _, _, h, _, _, _ => by rename_i a b c d e; cases a <;> simp [argOk] at h
  | _ :: _, _ :: _, [], _, _, h, _, _, _ => by rename_i a b c d e f; cases a <;> cases c <;> simp [argOk] at h
theorem frz_of_arg : ∀ {ms : List Md} {io : List (Option Nat)} {os : List Om} {j : Nat}, argOk ms io os = true → ms[j]? = some .frz → os[j]? = some (.tm .frz) ∨ ∃ i, os[j]? = some (.sl i) ∧ io[j]? = some (some i)
  | [], _, _, _, _, h => by simp at h
  | m :: ms, none :: io, .tm m' :: os, 0, h, e => by
    cases m <;> cases m' <;> first | exact .inl rfl | (simp [argOk] at h)
  | m :: ms, some i :: io, .sl j :: os, 0, h, e => by
    have h' : i = j := by cases m <;> first | exact (by simpa [argOk] using h : _ ∧ _).1
    subst h'
    exact .inr ⟨i, rfl, rfl⟩
  | m :: ms, none :: io, .tm m' :: os, j + 1, h, e => by
    have h' : argOk ms io os = true := by cases m <;> cases m' <;> first | exact h | (simp [argOk] at h)
    simpa using frz_of_arg (j := j) h' (by simpa using e)
  | m :: ms, some i :: io, .sl i' :: os, j + 1, h, e => by
    have h' : argOk ms io os = true := by cases m <;> exact (by simpa [argOk] using h : _ ∧ _).2
    simpa using frz_of_arg (j := j) h' (by simpa using e)
  | m :: _, none :: _, .sl _ :: _, _, h, _ => by cases m <;> simp [argOk] at h
  | m :: _, some _ :: _, .tm _ :: _, _, h, _ => by cases m <;> simp [argOk] at h
  | m :: _, [], _, _, h, _ => by cases m <;> simp [argOk] at h
  | m :: _, none :: _, [], _, h, _ => by cases m <;> simp [argOk] at h
  | m :: _, some _ :: _, [], _, h, _ => by cases m <;> simp [argOk] at h
theorem argOk_len : ∀ {ms : List Md} {io : List (Option Nat)} {os : List Om}, argOk ms io os = true → ms.length = os.length
  | [], [], [], _ => rfl
  | m :: ms, none :: io, .tm m' :: os, h => by
    have h' : argOk ms io os = true := by cases m <;> cases m' <;> first | exact h | (simp [argOk] at h)
    simp [argOk_len h']
  | m :: ms, some i :: io, .sl i' :: os, h => by
    have h' : argOk ms io os = true := by cases m <;> exact (by simpa [argOk] using h : _ ∧ _).2
    simp [argOk_len h']
  | m :: _, none :: _, .sl _ :: _, h => by cases m <;> simp [argOk] at h
  | m :: _, some _ :: _, .tm _ :: _, h => by cases m <;> simp [argOk] at h
  | m :: _, [], _, h => by cases m <;> simp [argOk] at h
  | m :: _, none :: _, [], h => by cases m <;> simp [argOk] at h
  | m :: _, some _ :: _, [], h => by cases m <;> simp [argOk] at h
  | [], _ :: _, _, h => by simp [argOk] at h
  | [], [], _ :: _, h => by simp [argOk] at h
/-- the callee's promise is asked with what stands in the world -/
theorem call_core {ms : List Md} {mr : Md} {fn : FnV} {p : List Nat} {io : List (Option Nat)} {os : List Om} {fa : FnA} (hl : ∀ ρ ds ρ', fa ρ = .ok (ds, ρ') → ds.length = os.length) (hsl : ∀ ρ ds ρ', fa ρ = .ok (ds, ρ') → ∀ (k i : Nat), os[k]? = some (Om.sl i) → ds[k]? = some (ρ'.getD i PyData.none))
    (hp : ∀ j ∈ p, j < os.length) (ha : argOk ms io (permL (.tm .dead) p os) = true) (hio : ioOk ms io M = true) {σ : L2.St} {H : Hp} {Q : VK} (q : tO P pv M (.tm mr) W (callF fn p io fa) σ H Q) :
    tAs P pv M os W fa σ H fun vs H1 => spT P ms mr fn (permL .non p vs) H1 Q fun cls d H => W cls d σ H := by
  obtain ⟨B, G, F, ρ, ts, s, k⟩ := q
  refine ⟨B, G, F, ρ, ts, s, ?_⟩
  have k : Post P B G F pv M σ ts (.tm mr) W Q (fa ρ >>= fun x => match fn (permL .none p x.1) with
    | .ok (d, ds') => if ds'.length = io.length then .ok (d, setIo io ds' x.2) else .bad
    | .exc c xs _ => if io.all (·.isNone) = true then .exc c xs x.2 else .bad
    | .bad => .bad) := k
  cases e1 : fa ρ with
  | bad => rw [e1] at k; exact k
  | exc c xs ρ' => rw [e1] at k; exact k
  | ok x =>
    obtain ⟨ds, ρ1⟩ := x
    rw [e1] at k
    intro vs H1 F1 s1 h1 hF1
    have hds := hl _ _ _ e1
    have hvs : vs.length = os.length := h1.length.symm
    have hms : ms.length = p.length := by rw [argOk_len ha, permL_len]
    -- each parameter by its place among the arguments
    have at_ : ∀ {j : Nat} {o : Om}, (permL (.tm .dead) p os)[j]? = some o → ∃ e, p[j]? = some e ∧ os[e]? = some o ∧ e < os.length := fun {j o} h => by
      unfold permL at h
      rw [List.getElem?_map] at h
      obtain ⟨e, e2, e3⟩ := Option.map_eq_some_iff.mp h
      have he := hp e (List.mem_of_getElem? e2)
      refine ⟨e, e2, ?_, he⟩
      rw [List.getElem?_eq_getElem he]
      rw [List.getD_eq_getElem?_getD, List.getElem?_eq_getElem he] at e3
      exact congrArg some e3
    have pm : ∀ {α : Type} {dflt : α} {l : List α} {j e : Nat}, p[j]? = some e → e < l.length → (permL dflt p l)[j]? = l[e]? := fun {α dflt l j e} h1 h2 => by
      unfold permL
      rw [List.getElem?_map, h1, List.getElem?_eq_getElem h2]
      show some (l.getD e dflt) = _
      rw [List.getD_eq_getElem?_getD, List.getElem?_eq_getElem h2]; rfl
    have io_at : IoAt ρ1 σ io (permL .none p ds) (permL .non p vs) := io_of_arg ha (by rw [permL_len, permL_len]) (by rw [permL_len, permL_len]) fun j i h => by
      obtain ⟨e, e2, e3, e4⟩ := at_ h
      obtain ⟨v, e5, e6⟩ := h1.get e3
      refine ⟨⟨v, ?_, e6⟩, ?_⟩
      · rw [pm e2 (by rw [hvs]; exact e4)]; exact e5
      · rw [pm e2 (by rw [hds]; exact e4)]; exact hsl _ _ _ e1 e i e3
    have w1 := takeIo (ts := entsO os ds vs ++ ts) hio io_at s1.lr s1.ls s1.w
    have w2 := World.args w1 fun j d v a1 a2 a3 => by
      rcases frz_of_arg ha a1 with h | ⟨i, h, hi⟩
      · obtain ⟨e, e2, e3, e4⟩ := at_ h
        rw [pm e2 (by rw [hds]; exact e4)] at a2
        rw [pm e2 (by rw [hvs]; exact e4)] at a3
        exact s1.w.rf_frz (List.mem_append_left _ (List.mem_append_left _ (mem_entsO e3 a2 a3)))
      · exact absurd hio (fun z => by
          -- a frozen parameter has no slot
          have : ∀ {ms : List Md} {io : List (Option Nat)} {M : List Md} {j i : Nat}, ioOk ms io M = true → ms[j]? = some .frz → io[j]? = some (some i) → False := by
            intro ms
            induction ms with
            | nil => intro io M j i _ h; simp at h
            | cons m ms ih =>
              intro io M j i h a b
              cases io with
              | nil => simp at b
              | cons o io =>
                cases o with
                | none =>
                  simp only [ioOk, Bool.and_eq_true, decide_eq_true_eq] at h
                  cases j with
                  | zero => simp at b
                  | succ j => exact ih h.2 (by simpa using a) (by simpa using b)
                | some i' =>
                  simp only [ioOk, Bool.and_eq_true, decide_eq_true_eq] at h
                  cases j with
                  | zero => simp at a; exact h.1.1.1 a
                  | succ j => exact ih h.2 (by simpa using a) (by simpa using b)
          exact this z a1 hi)
    obtain ⟨B', G', w3, back⟩ := w2.call
    have k : Post P B G F pv M σ ts (.tm mr) W Q (match fn (permL .none p ds) with
      | .ok (d, ds') => if ds'.length = io.length then .ok (d, setIo io ds' ρ1) else .bad
      | .exc c xs _ => if io.all (·.isNone) = true then .exc c xs ρ1 else .bad
      | .bad => .bad) := k
    refine ⟨by rw [permL_len, hms], B', G', F1, permL .none p ds, by rw [permL_len, hms], w3, ?_⟩
    cases e2 : fn (permL .none p ds) with
    | bad => rw [e2] at k; exact k
    | exc c xs ρ' =>
      rw [e2] at k
      intro cls dx H' F' w' hx hF'
      have k : Post P B G F pv M σ ts (.tm mr) W Q (if io.all (·.isNone) = true then .exc c xs ρ1 else .bad) := k
      split at k
      · rename_i hn
        have w4 := back F' [] H' w' hF'
        rw [killIo_none hn] at w4
        exact k cls dx H' F' (s1.to w4 : Stt P B G F' pv M ρ1 σ (entsO os ds vs ++ ts) H').dropL hx fun a z => hF' a (hF1 a z)
      · exact k.elim
    | ok y =>
      obtain ⟨d, ds'⟩ := y
      rw [e2] at k
      have k : Post P B G F pv M σ ts (.tm mr) W Q (if ds'.length = io.length then .ok (d, setIo io ds' ρ1) else .bad) := k
      split at k
      · rename_i hn
        have hn' : ds'.length = ms.length := by rw [hn, ioOk_len hio]
        refine ⟨hn', fun v H' F' w' hF' => ?_⟩
        have w4 := back F' _ H' w' hF'
        have w5 : World P.toPar B G F' (ioE ms ds' (permL .non p vs) ++ (((mr, d, some v) :: (entsO os ds vs ++ ts)) ++ slots (killIo io M) ρ1 σ)) H' := w4.perm List.perm_middle.symm
        have w6 := putIo hio io_at hn' s1.lr s1.ls w5
        have s6 : Stt P B G F' pv M (setIo io ds' ρ1) σ ((mr, d, some v) :: (entsO os ds vs ++ ts)) H' := ⟨w6, (setIo_len _ _ _).trans s1.lr, s1.ls, s1.pv⟩
        exact k v H' F' s6.dropM trivial fun a z => hF' a (hF1 a z)
      · exact k.elim
end
end Z

set_option maxRecDepth 100000
set_option maxHeartbeats 1000000
namespace Z
open PySem PySem.Spec PyProof.Rows L2

section
variable {X : Cx} {P : Par2} {pv : List (Nat × V)} {M : List Md} {W : WX}
/-! ### calls of the text's own defs -/
theorem vals_getD : ∀ {vs : List V} {us : List Value} (j : Nat), Vals vs us → RelV (vs.getD j .non) (us.getD j .none)
  | _, _, j, .nil => by
    show RelV ([].getD j V.non) ([].getD j Value.none)
    simp only [List.getD_nil]; rfl
  | _, _, 0, .cons a _ => a
  | _, _, j + 1, .cons _ r => by simpa using vals_getD j r
theorem vals_perm {vs : List V} {us : List Value} (r : Vals vs us) : ∀ (p : List Nat), Vals (permL .non p vs) (permL .none p us)
  | [] => .nil
  | j :: p => .cons (vals_getD j r) (vals_perm r p)
/-- how n positional and the keywords ks bind -/
def KB (fd : FuncData) (ps : List Str) (n : Nat) (ks : List Str) (p : List Nat) : Prop :=
  ∀ (s : Shared) (us ws : List Value), us.length = n → ws.length = ks.length → BindsTo s fd ⟨us, ks.zip ws⟩ (ps.zip (permL .none p (us ++ ws)))
section
variable {k k' : Nat} {f : Addr} {fd : FuncData} {ps : List Str} {ms : List Md} {mr : Md} {fn : FnV} {x : Str} {p pos : Pos} {e : Expr} {es : List Expr} {os : List Om} {fa : FnA} {pm : List Nat} {io : List (Option Nat)}
theorem TO.call (C : CtxOk X P k') (F : FnT X.prog X.w X.K X.mg X.base k f fd ps (spT P ms mr fn)) (hm : X.mg x = some (.ref f)) (hkp : PySem.W.keepIn X.K (.ref f) = true) (tk : Takes X W) (hb : KB fd ps os.length [] pm) (ha : TAs X P pv M W (e :: es) os fa)
    (hk : k ≤ k' := by decide) (hg : Gl X x := by rfl) (hp : ∀ j ∈ pm, j < os.length := by decide) (hao : argOk ms io (permL (.tm .dead) pm os) = true := by rfl) (hio : ioOk ms io M = true := by rfl) (hdb : (x == ("__debug__" : Str)) = false := by decide)
    (he : starEach (e :: es) X.env = (false, eval e X.env) :: starEach es X.env := by rfl) (hpl : (backTo pos (starEach es X.env)).any (·.1) = false := by rfl) : TO X P pv M W (.Call (.Name x p) (e :: es) [] pos) (.tm mr) (callF fn pm io fa) := by
  refine ⟨⟨fun pins s σ H Q I h => ?_⟩, fun _ z => nomatch z⟩
  have h2 := call_core ha.len ha.sl hp hao hio h
  refine wpAny_Call_Name_kw (ld_glob I hg hm ?_ hdb)
  refine PySem.W.callWith_K (h₀ := X.base) I.ok.mod.kin hkp (thn (ha.pa.run pos pins s σ H (fun vs H1 => vs.length = os.length ∧ spT P ms mr fn (permL .non pm vs) H1 Q fun cls d H => W cls d σ H) I ?_) fun us s1 ⟨vs, H1, I1, r, hl, q⟩ => ⟨I1.kIn, ?_⟩) he hpl
  · obtain ⟨B, G, F, ρ, ts, s, kk⟩ := h2
    refine ⟨B, G, F, ρ, ts, s, ?_⟩
    cases e1 : fa ρ with
    | bad => rw [e1] at kk; exact kk
    | exc c xs ρ' => rw [e1] at kk; exact kk
    | ok y => rw [e1] at kk; exact fun vs H' F' s' hh hF => ⟨hh.length.symm, kk vs H' F' s' hh hF⟩
  · have b := hb s1 us [] (by rw [← r.length]; exact hl) rfl
    rw [List.append_nil] at b
    exact runT (ks := []) (ws := []) C hk F tk b I1 (vals_perm r pm) q
/-- keywords behind positional arguments, or alone -/
theorem TO.callK {kws : List Keyword} {ok : List Om} {fk : FnA} {ks : List Str} (C : CtxOk X P k') (F : FnT X.prog X.w X.K X.mg X.base k f fd ps (spT P ms mr fn)) (hm : X.mg x = some (.ref f)) (hkp : PySem.W.keepIn X.K (.ref f) = true) (tk : Takes X W) (hb : KB fd ps os.length ks pm)
    (ha : TAs X P pv M W (e :: es) os fa) (hkw : TKs X P pv M W kws ok fk) (pf : (os ++ ok).all (fun o => match o with | .tm _ => true | _ => false) = true := by rfl)
    (hk : k ≤ k' := by decide) (hg : Gl X x := by rfl) (hlk : ok.length = ks.length := by rfl) (hp : ∀ j ∈ pm, j < (os ++ ok).length := by decide) (hao : argOk ms io (permL (.tm .dead) pm (os ++ ok)) = true := by rfl) (hio : ioOk ms io M = true := by rfl) (hdb : (x == ("__debug__" : Str)) = false := by decide)
    (hall : (backToKw pos (keywordEach kws X.env)).all (·.1.isSome) = true := by rfl) (hks : (backToKw pos (keywordEach kws X.env)).filterMap (·.1) = ks := by rfl)
    (he : starEach (e :: es) X.env = (false, eval e X.env) :: starEach es X.env := by rfl) (hpl : ((backTo pos (starEach (e :: es) X.env)).any (·.1) || (backToKw pos (keywordEach kws X.env)).any (·.1.isNone)) = false := by rfl) :
    TO X P pv M W (.Call (.Name x p) (e :: es) kws pos) (.tm mr) (callF fn pm io (appA fa fk)) := by
  refine ⟨⟨fun pins s σ H Q I h => ?_⟩, fun _ z => nomatch z⟩
  have hl2 : ∀ ρ ds ρ', appA fa fk ρ = .ok (ds, ρ') → ds.length = (os ++ ok).length := fun ρ ds ρ' z => by
    obtain ⟨x, e1, z⟩ := R.ok_of_bind z
    obtain ⟨y, e2, z⟩ := R.ok_of_bind z
    cases z
    simp [ha.len _ _ _ e1, hkw.len _ _ _ e2]
  have hs2 : ∀ ρ ds ρ', appA fa fk ρ = .ok (ds, ρ') → ∀ (k i : Nat), (os ++ ok)[k]? = some (Om.sl i) → ds[k]? = some (ρ'.getD i PyData.none) := fun ρ ds ρ' _ k i z => by
    have := List.all_eq_true.mp pf _ (List.mem_of_getElem? z)
    cases this
  have h2 := call_core hl2 hs2 hp hao hio h
  have h4 : tAs P pv M (os ++ ok) W (appA fa fk) σ H fun vs H1 => ∀ v1 v2, vs = v1 ++ v2 → v1.length = os.length → (v1.length = os.length ∧ v2.length = ok.length ∧ spT P ms mr fn (permL .non pm (v1 ++ v2)) H1 Q fun cls d H => W cls d σ H) := by
    obtain ⟨B, G, F, ρ, ts, s, kk⟩ := h2
    refine ⟨B, G, F, ρ, ts, s, ?_⟩
    cases e1 : appA fa fk ρ with
    | bad => rw [e1] at kk; exact kk
    | exc c xs ρ' => rw [e1] at kk; exact kk
    | ok y =>
      rw [e1] at kk
      intro vs H' F' s' hh hF v1 v2 ev hv
      have := hh.length
      subst ev
      refine ⟨hv, ?_, kk _ H' F' s' hh hF⟩
      simp only [List.length_append] at this
      omega
  have h3 := app_args (Q := fun v1 v2 H1 => v1.length = os.length ∧ v2.length = ok.length ∧ spT P ms mr fn (permL .non pm (v1 ++ v2)) H1 Q fun cls d H => W cls d σ H) ha.len h4
  refine wpAny_Call_Name_kw (ld_glob I hg hm ?_ hdb)
  refine PySem.W.callWith_KW (h₀ := X.base) I.ok.mod.kin hkp hall (thn (ha.pa.run pos pins s σ H _ I h3) fun us s1 ⟨vs, H1, I1, r, q⟩ => ?_) hpl he
  refine thn (hkw.pk.run pos pins s1 σ H1 _ I1 q) fun ws s2 ⟨zs, H2, I2, rz, l1, l2, q2⟩ => ⟨I2.kIn, ?_⟩
  rw [hks]
  exact runT C hk F tk (hb s2 us ws (by rw [← r.length]; exact l1) (by rw [← rz.length, l2, hlk])) I2 (vals_perm (r.append rz) pm) q2
theorem TO.callK0 {kws : List Keyword} {ok : List Om} {fk : FnA} {ks : List Str} (C : CtxOk X P k') (F : FnT X.prog X.w X.K X.mg X.base k f fd ps (spT P ms mr fn)) (hm : X.mg x = some (.ref f)) (hkp : PySem.W.keepIn X.K (.ref f) = true) (tk : Takes X W) (hb : KB fd ps 0 ks pm)
    (hkw : TKs X P pv M W kws ok fk)
    (hk : k ≤ k' := by decide) (hg : Gl X x := by rfl) (hlk : ok.length = ks.length := by rfl) (hp : ∀ j ∈ pm, j < ok.length := by decide) (hao : argOk ms io (permL (.tm .dead) pm ok) = true := by rfl) (hio : ioOk ms io M = true := by rfl) (hdb : (x == ("__debug__" : Str)) = false := by decide)
    (hall : (backToKw pos (keywordEach kws X.env)).all (·.1.isSome) = true := by rfl) (hks : (backToKw pos (keywordEach kws X.env)).filterMap (·.1) = ks := by rfl)
    (hpl : ((backTo pos (starEach [] X.env)).any (·.1) || (backToKw pos (keywordEach kws X.env)).any (·.1.isNone)) = false := by rfl) :
    TO X P pv M W (.Call (.Name x p) [] kws pos) (.tm mr) (callF fn pm io fk) := by
  refine ⟨⟨fun pins s σ H Q I h => ?_⟩, fun _ z => nomatch z⟩
  have h2 := call_core hkw.len hkw.sl hp hao hio h
  refine wpAny_Call_Name_kw (ld_glob I hg hm ?_ hdb)
  refine PySem.W.callWith_KW0 (h₀ := X.base) I.ok.mod.kin hkp hall (thn (hkw.pk.run pos pins s σ H (fun vs H1 => vs.length = ok.length ∧ spT P ms mr fn (permL .non pm vs) H1 Q fun cls d H => W cls d σ H) I ?_) fun ws s1 ⟨zs, H1, I1, rz, hl, q⟩ => ⟨I1.kIn, ?_⟩) hpl
  · obtain ⟨B, G, F, ρ, ts, s, kk⟩ := h2
    refine ⟨B, G, F, ρ, ts, s, ?_⟩
    cases e1 : fk ρ with
    | bad => rw [e1] at kk; exact kk
    | exc c xs ρ' => rw [e1] at kk; exact kk
    | ok y => rw [e1] at kk; exact fun vs H' F' s' hh hF => ⟨hh.length.symm, kk vs H' F' s' hh hF⟩
  · rw [hks]
    exact runT (us := []) C hk F tk (hb s1 [] ws rfl (by rw [← rz.length, hl, hlk])) I1 (vals_perm rz pm) q
end
end

/-! ### statements -/
inductive Fl where
  | nx (ρ : Env') | ret (d : D) (ρ : Env') | brk (ρ : Env') | ct (ρ : Env')
abbrev FnS := Env' → R Fl
structure Sg where
  pv : List (Nat × V)
  Mb : List Md
  Mc : List Md
  MR : List Md
  Mx : List Md
  mr : Md
  W : WX
def PostS (P : Par2) (J : Sg) (B : Hp) (G F : Addr → Prop) (ts : List Ent) (Mn : List Md) (E : Ends) : R Fl → Prop
  | .ok (.nx ρ') => ∀ σ' H' F', Stt P B G F' J.pv Mn ρ' σ' ts H' → (∀ a, F a → F' a) → E.nx σ' H'
  | .ok (.ret d ρ') => ∀ v σ' H' F', Stt P B G F' J.pv J.MR ρ' σ' ((J.mr, d, some v) :: ts) H' → (∀ a, F a → F' a) → E.rt v H'
  | .ok (.brk ρ') => ∀ σ' H' F', Stt P B G F' J.pv J.Mb ρ' σ' ts H' → (∀ a, F a → F' a) → E.bk σ' H'
  | .ok (.ct ρ') => ∀ σ' H' F', Stt P B G F' J.pv J.Mc ρ' σ' ts H' → (∀ a, F a → F' a) → E.ct σ' H'
  | .exc c xs ρ' => ∀ cls dx σ' H' F', Stt P B G F' J.pv J.Mx ρ' σ' ts H' → ExcAt P H' F' c xs cls dx → (∀ a, F a → F' a) → J.W cls dx σ' H'
  | .bad => False
def tS (P : Par2) (J : Sg) (M Mn : List Md) (f : FnS) : TS := fun E σ H =>
  ∃ B G F ρ ts, Stt P B G F J.pv M ρ σ ts H ∧ PostS P J B G F ts Mn E (f ρ)
theorem _root_.L2.PS.imp {X : Cx} {e : Stmt} {t t' : TS} (h : PS X e t) (k : ∀ D σ H, t' D σ H → t D σ H) : PS X e t' := ⟨fun pins s σ H D I q => h.run pins s σ H D I (k _ _ _ q)⟩
theorem _root_.L2.PSs.imp {X : Cx} {e : List Stmt} {t t' : TS} (h : PSs X e t) (k : ∀ D σ H, t' D σ H → t D σ H) : PSs X e t' := ⟨fun pins s σ H D I q => h.run pins s σ H D I (k _ _ _ q)⟩
/-- fewer slots are told -/
def leM : List Md → List Md → Bool
  | [], [] => true
  | m :: M, n :: N => (decide (n = m) || decide (n = .dead)) && leM M N
  | _, _ => false
theorem leM_len : ∀ {M N : List Md}, leM M N = true → M.length = N.length
  | [], [], _ => rfl
  | m :: M, n :: N, h => by
    simp only [leM, Bool.and_eq_true] at h
    simp [leM_len h.2]
  | [], _ :: _, h => by simp [leM] at h
  | _ :: _, [], h => by simp [leM] at h
theorem leM_refl : ∀ {M : List Md}, leM M M = true
  | [] => rfl
  | m :: M => by simp [leM, leM_refl (M := M)]
section
variable {X : Cx} {P : Par2} {J : Sg} {M Mn M1 M2 : List Md}
theorem slots_le {B H : Hp} {G F : Addr → Prop} : ∀ {M N : List Md} {ρ : Env'} {σ : L2.St} {ts : List Ent}, leM M N = true → World P.toPar B G F (ts ++ slots M ρ σ) H → World P.toPar B G F (ts ++ slots N ρ σ) H
  | [], [], _, _, _, _, w => w
  | m :: M, n :: N, ρ, σ, ts, h, w => by
    simp only [leM, Bool.and_eq_true, Bool.or_eq_true, decide_eq_true_eq] at h
    have w1 : World P.toPar B G F ((ts ++ [(m, ρ.headD .none, σ.headD none)]) ++ slots M ρ.tail σ.tail) H := by
      rw [List.append_assoc]; exact w
    have w2 := slots_le h.2 w1
    rw [List.append_assoc] at w2
    rcases h.1 with e | e
    · subst e; exact w2
    · subst e
      have w3 : World P.toPar B G F ((m, ρ.headD .none, σ.headD none) :: (ts ++ slots N ρ.tail σ.tail)) H := w2.perm List.perm_middle
      exact (w3.drop1.dead_cons (d := ρ.headD .none) (v := σ.headD none)).perm List.perm_middle.symm
  | [], _ :: _, _, _, _, h, _ => by simp [leM] at h
  | _ :: _, [], _, _, _, h, _ => by simp [leM] at h
theorem Stt.le {B H : Hp} {G F : Addr → Prop} {pv : List (Nat × V)} {ρ : Env'} {σ : L2.St} {ts : List Ent} (s : Stt P B G F pv M ρ σ ts H) (h : leM M Mn = true) : Stt P B G F pv Mn ρ σ ts H :=
  ⟨slots_le h s.w, by rw [← leM_len h]; exact s.lr, by rw [← leM_len h]; exact s.ls, s.pv⟩
theorem PostS.mono {B : Hp} {G F F1 : Addr → Prop} {ts : List Ent} {E : Ends} {r : R Fl} (hF : ∀ a, F a → F1 a) (q : PostS P J B G F ts Mn E r) : PostS P J B G F1 ts Mn E r := by
  cases r with
  | bad => exact q
  | exc c xs ρ' => exact fun cls dx σ' H' F' s' hx hF' => q cls dx σ' H' F' s' hx fun a z => hF' a (hF a z)
  | ok fl =>
    cases fl with
    | nx ρ' => exact fun σ' H' F' s' hF' => q σ' H' F' s' fun a z => hF' a (hF a z)
    | ret d ρ' => exact fun v σ' H' F' s' hF' => q v σ' H' F' s' fun a z => hF' a (hF a z)
    | brk ρ' => exact fun σ' H' F' s' hF' => q σ' H' F' s' fun a z => hF' a (hF a z)
    | ct ρ' => exact fun σ' H' F' s' hF' => q σ' H' F' s' fun a z => hF' a (hF a z)
/-- the end's modes may be fewer; the begin's may be more -/
theorem tS.weak {f : FnS} {E : Ends} {σ : L2.St} {H : Hp} (h : tS P J M M2 f E σ H) (h1 : leM M1 M2 = true) : tS P J M M1 f E σ H := by
  obtain ⟨B, G, F, ρ, ts, s, k⟩ := h
  refine ⟨B, G, F, ρ, ts, s, ?_⟩
  cases e : f ρ with
  | bad => rw [e] at k; exact k
  | exc c xs ρ' => rw [e] at k; exact k
  | ok fl =>
    rw [e] at k
    cases fl with
    | nx ρ' => exact fun σ' H' F' s' hF' => k σ' H' F' (s'.le h1) hF'
    | _ => exact k
def seqF (f g : FnS) : FnS := fun ρ => f ρ >>= fun fl => match fl with
  | .nx ρ' => g ρ'
  | o => .ok o
def skipF : FnS := fun ρ => .ok (.nx ρ)
theorem ss_nil (h : leM M Mn = true := by rfl) : PSs X [] (tS P J M Mn skipF) := pss_nil.imp fun E σ H ⟨B, G, F, ρ, ts, s, k⟩ => k σ H F (s.le h) fun _ z => z
theorem ss_cons {st : Stmt} {rest : List Stmt} {f g : FnS} (h1 : PS X st (tS P J M M1 f)) (h2 : PSs X rest (tS P J M1 Mn g)) : PSs X (st :: rest) (tS P J M Mn (seqF f g)) :=
  (pss_cons h1 h2).imp fun E σ H ⟨B, G, F, ρ, ts, s, k⟩ => by
    show tS P J M M1 f { E with nx := tS P J M1 Mn g E } σ H
    refine ⟨B, G, F, ρ, ts, s, ?_⟩
    have k : PostS P J B G F ts Mn E (f ρ >>= fun fl => match fl with | .nx ρ' => g ρ' | o => .ok o) := k
    cases e : f ρ with
    | bad => rw [e] at k; exact k
    | exc c xs ρ' => rw [e] at k; exact k
    | ok fl =>
      rw [e] at k
      cases fl with
      | nx ρ' => exact fun σ' H' F' s' hF' => ⟨B, G, F', ρ', ts, s', PostS.mono hF' k⟩
      | ret d ρ' => exact k
      | brk ρ' => exact k
      | ct ρ' => exact k
theorem ss_last {st : Stmt} {f : FnS} (h1 : PS X st (tS P J M Mn f)) : PSs X [st] (tS P J M Mn f) := pss_one h1
theorem ss_weak {sts : List Stmt} {f : FnS} (h : PSs X sts (tS P J M M1 f)) (hl : leM M1 Mn = true := by rfl) : PSs X sts (tS P J M Mn f) := h.imp fun E σ H q => q.weak hl
/-- an expression within a statement -/
def withE (fa : Fn') (k : D → Env' → R Fl) : FnS := fun ρ => fa ρ >>= fun x => k x.1 x.2
theorem expr_in {o : Om} {fa : Fn'} {kf : D → Env' → R Fl} (hx : leM M J.Mx = true) {E : Ends} {σ : L2.St} {H : Hp} {Q : VK} (h : tS P J M Mn (withE fa kf) E σ H)
    (hq : ∀ (B : Hp) (G F F0 : Addr → Prop) (ρ ρ' : Env') (ts : List Ent) (d : D) (v : V) (H' : Hp), fa ρ = .ok (d, ρ') → Stt P B G F J.pv M ρ' σ (o.ent d v ++ ts) H' → o.hold σ v → PostS P J B G F ts Mn E (kf d ρ') → Q v H') : tO P J.pv M o J.W fa σ H Q := by
  obtain ⟨B, G, F, ρ, ts, s, k⟩ := h
  refine ⟨B, G, F, ρ, ts, s, ?_⟩
  have k : PostS P J B G F ts Mn E (fa ρ >>= fun x => kf x.1 x.2) := k
  cases e : fa ρ with
  | bad => rw [e] at k; exact k
  | exc c xs ρ' =>
    rw [e] at k
    intro cls dx H' F' s' hx' hF'
    exact k cls dx σ H' F' (s'.le hx) hx' hF'
  | ok x =>
    obtain ⟨d, ρ'⟩ := x
    rw [e] at k
    exact fun v H' F' s' hh hF' => hq B G F' F ρ ρ' ts d v H' e s' hh (PostS.mono hF' k)
/-- a slot is stored -/
theorem Stt.store {B H : Hp} {G F : Addr → Prop} {pv : List (Nat × V)} {ρ : Env'} {σ : L2.St} {ts : List Ent} {i : Nat} {m : Md} {d : D} {v : V} (s : Stt P B G F pv M ρ σ ((m, d, some v) :: ts) H) (hi : i < M.length) (hp : ∀ p ∈ pv, p.1 ≠ i) : Stt P B G F pv (M.set i m) (ρ.set i d) (σ.set i (some v)) ts H := by
  have hm : M[i]? = some M[i] := List.getElem?_eq_getElem hi
  obtain ⟨l1, l2, e1, e2⟩ := slots_cut hm s.lr s.ls
  have e3 := e2 m d (some v)
  refine ⟨?_, by simpa using s.lr, by simpa using s.ls, fun p hpp => ?_⟩
  · have w := s.w
    rw [e1] at w
    rw [e3]
    have w2 : World P.toPar B G F ((M[i], ρ.getD i .none, σ.getD i none) :: ((m, d, some v) :: ts ++ (l1 ++ l2))) H := w.perm (by
      refine .trans (by rw [← List.append_assoc]) (.trans List.perm_middle ?_)
      rw [List.append_assoc])
    have w3 : World P.toPar B G F ((m, d, some v) :: (ts ++ (l1 ++ l2))) H := w2.drop1
    refine w3.perm ?_
    rw [← List.append_assoc, ← List.append_assoc]
    exact List.perm_middle.symm
  · rw [List.getElem?_set_ne (fun z => hp p hpp z.symm)]
    exact s.pv p hpp
def setF (i : Nat) (fa : Fn') : FnS := withE fa fun d ρ => .ok (.nx (ρ.set i d))
theorem st_set {x : Str} {i : Nat} {m : Md} {e : Expr} {fa : Fn'} {pos pos' : Pos} (he : TO X P J.pv M J.W e (.tm m) fa) (hN : X.N.Nodup) (hi : X.N[i]? = some x := by rfl) (hl : i < M.length := by decide) (hp : J.pv.all (fun p => decide (p.1 ≠ i)) = true := by rfl) (hx : leM M J.Mx = true := by rfl)
    (hv : Loc X.env.scope x := by first | exact .inl rfl | exact .inr rfl) (hs : swapsWith e (some (.Name x pos')) pos.line X.env = pure false := by rfl) (hf : X.fn x = true ∨ X.env.scope.names.lookup x = some .local := by first | exact .inl rfl | exact .inr rfl) :
    PS X (.Assign [.Name x pos'] e pos) (tS P J M (M.set i m) (setF i fa)) :=
  (ps_set hN hi hv he.pe hs hf).imp fun E σ H q => expr_in (o := .tm m) hx q fun B G F F0 ρ ρ' ts d v H' _ s _ k =>
    k (σ.set i (some v)) H' F (s.store hl fun p hpp => of_decide_eq_true (List.all_eq_true.mp hp p hpp)) fun _ z => z
def retF (fa : Fn') : FnS := withE fa fun d ρ => .ok (.ret d ρ)
theorem st_ret {e : Expr} {fa : Fn'} {pos : Pos} (he : TO X P J.pv M J.W e (.tm J.mr) fa) (hR : leM M J.MR = true := by rfl) (hx : leM M J.Mx = true := by rfl) : PS X (.Return (some e) pos) (tS P J M Mn (retF fa)) :=
  (ps_ret he.pe).imp fun E σ H q => expr_in (o := .tm J.mr) hx q fun B G F F0 ρ ρ' ts d v H' _ s _ k => k v σ H' F (s.le hR) fun _ z => z
/-- an owned slot is handed back: the def ends -/
theorem st_retS {e : Expr} {i : Nat} {pos : Pos} (he : TO X P J.pv M J.W e (.sl i) (rdVar i)) (hm : M[i]? = some J.mr := by rfl) (hR : leM (M.set i .dead) J.MR = true := by rfl) (hx : leM M J.Mx = true := by rfl) : PS X (.Return (some e) pos) (tS P J M Mn (retF (rdVar i))) :=
  (ps_ret he.pe).imp fun E σ H q => expr_in (o := .sl i) hx q fun B G F F0 ρ ρ' ts d v H' e1 s hh k => by
    cases e1
    have w := take_slot s.w hm s.lr s.ls
    rw [getD_of (show σ[i]? = some (some v) from hh)] at w
    have s2 : Stt P B G F J.pv (M.set i .dead) ρ σ ((J.mr, ρ.getD i .none, some v) :: ts) H' := ⟨w, by simpa using s.lr, by simpa using s.ls, s.pv⟩
    exact k v σ H' F (s2.le hR) fun _ z => z
def exF (fa : Fn') : FnS := withE fa fun _ ρ => .ok (.nx ρ)
theorem st_expr {e : Expr} {o : Om} {fa : Fn'} {pos : Pos} (he : TO X P J.pv M J.W e o fa) (hx : leM M J.Mx = true := by rfl) (hs : swapsWith e none pos.line X.env = pure false := by rfl) : PS X (.Expr e pos) (tS P J M M (exF fa)) :=
  (ps_expr he.pe hs).imp fun E σ H q => expr_in (o := o) hx q fun B G F F0 ρ ρ' ts d v H' _ s _ k => k σ H' F s.dropL fun _ z => z
def ifF (fc : Fn') (f g : FnS) : FnS := fun ρ => fc ρ >>= fun x => match x.1 with
  | .bool true => f x.2
  | .bool false => g x.2
  | _ => .bad
theorem st_if {c : Expr} {a b : List Stmt} {fc : Fn'} {f g : FnS} {pos : Pos} (hc : PT X c (tT P J.pv M J.W fc)) (ha : PSs X a (tS P J M Mn f)) (hb : PSs X b (tS P J M Mn g)) (hx : leM M J.Mx = true := by rfl) : PS X (.If c a b pos) (tS P J M Mn (ifF fc f g)) :=
  (ps_if hc ha hb).imp fun E σ H ⟨B, G, F, ρ, ts, s, k⟩ => by
    refine ⟨B, G, F, ρ, ts, s, ?_⟩
    have k : PostS P J B G F ts Mn E (fc ρ >>= fun x => match x.1 with | .bool true => f x.2 | .bool false => g x.2 | _ => .bad) := k
    cases e1 : fc ρ with
    | bad => rw [e1] at k; exact k
    | exc c xs ρ' =>
      rw [e1] at k
      intro cls dx H' F' s' hx' hF'
      exact k cls dx σ H' F' (s'.le hx) hx' hF'
    | ok x =>
      obtain ⟨d, ρ1⟩ := x
      rw [e1] at k
      cases d with
      | bool b =>
        intro H' F' s' hF
        cases b with
        | true => exact (if_pos rfl).mpr ⟨B, G, F', ρ1, ts, s', PostS.mono hF k⟩
        | false => exact (if_neg Bool.false_ne_true).mpr ⟨B, G, F', ρ1, ts, s', PostS.mono hF k⟩
      | none => exact k.elim
      | int i => exact k.elim
      | str i => exact k.elim
      | list i => exact k.elim
      | tuple i => exact k.elim
      | dict i => exact k.elim
def brkF : FnS := fun ρ => .ok (.brk ρ)
def ctF : FnS := fun ρ => .ok (.ct ρ)
theorem st_brk {pos : Pos} (h : leM M J.Mb = true := by rfl) : PS X (.Break pos) (tS P J M Mn brkF) := ps_break.imp fun E σ H ⟨B, G, F, ρ, ts, s, k⟩ => k σ H F (s.le h) fun _ z => z
theorem st_ct {pos : Pos} (h : leM M J.Mc = true := by rfl) : PS X (.Continue pos) (tS P J M Mn ctF) := ps_continue.imp fun E σ H ⟨B, G, F, ρ, ts, s, k⟩ => k σ H F (s.le h) fun _ z => z
theorem st_pass {pos : Pos} : PS X (.Pass pos) (tS P J M M skipF) := ps_pass.imp fun E σ H ⟨B, G, F, ρ, ts, s, k⟩ => k σ H F s fun _ z => z
/-- a slot is frozen ahead of a statement -/
theorem st_frz {st : Stmt} {i : Nat} {m : Md} {f : FnS} (h : PS X st (tS P J (M.set i .frz) Mn f)) (hm : M[i]? = some m := by rfl) (hp : m.plain = true := by rfl) : PS X st (tS P J M Mn f) :=
  h.imp fun E σ H ⟨B, G, F, ρ, ts, s, k⟩ => by
    have w := take_slot s.w hm s.lr s.ls
    obtain ⟨v, e, _⟩ := s.slot hm (by intro z; subst z; cases hp)
    rw [getD_of e] at w
    obtain ⟨F2, hF2, w2⟩ := World.freeze w hp
    have hi : i < M.length := (List.getElem?_eq_some_iff.mp hm).1
    have hm2 : (M.set i .frz)[i]? = some .frz := by simp [hi]
    have w3 : World P.toPar B G F2 (ts ++ slots (M.set i .frz) (ρ.set i (ρ.getD i .none)) σ) H := put_slot (i := i) (m := .frz) (by rw [getD_of e, List.set_set]; exact w2) hm2 (by simpa using s.lr) (by simpa using s.ls)
    have er : ρ.set i (ρ.getD i .none) = ρ := list_set_self (by rw [List.getD_eq_getElem?_getD, List.getElem?_eq_getElem (by rw [s.lr]; exact hi)]; rfl)
    rw [er] at w3
    exact ⟨B, G, F2, ρ, ts, ⟨w3, by simpa using s.lr, by simpa using s.ls, s.pv⟩, PostS.mono hF2 k⟩
end
end Z

set_option maxRecDepth 100000
set_option maxHeartbeats 1000000
namespace Z
open PySem PySem.Spec PyProof.Rows L2

/-! ### targets -/
abbrev Bd := D → Env' → Option Env'
abbrev Bds := List D → Env' → Option Env'
/-- a target of a for, of an assignment; ch: the slots it may store -/
structure TTg (X : Cx) (P : Par2) (pv : List (Nat × V)) (M Mt : List Md) (ch : List Nat) (tg : Expr) (g : TG) (b : Bd) : Prop where
  pg : PG X tg g
  rd : ∀ (B : Hp) (G F : Addr → Prop) (ρ ρ1 : Env') (σ : L2.St) (ts : List Ent) (H : Hp) (d : D) (v : V) (Q : L2.St → Hp → Prop), Stt P B G F pv M ρ σ ts H → RF P.toPar H F v d → b d ρ = some ρ1 →
    (∀ σ1, Stt P B G F pv Mt ρ1 σ1 ts H → (∀ i, i ∉ ch → σ1[i]? = σ[i]?) → Q σ1 H) → g v σ H Q
structure TTgs (X : Cx) (P : Par2) (pv : List (Nat × V)) (M Mt : List Md) (ch : List Nat) (es : List Expr) (g : TGs) (b : Bds) : Prop where
  pg : PGs X es g
  rd : ∀ (B : Hp) (G F : Addr → Prop) (ρ ρ1 : Env') (σ : L2.St) (ts : List Ent) (H : Hp) (ds : List D) (vs : List V) (Q : L2.St → Hp → Prop), Stt P B G F pv M ρ σ ts H → RFs P.toPar H F vs ds → b ds ρ = some ρ1 →
    (∀ σ1, Stt P B G F pv Mt ρ1 σ1 ts H → (∀ i, i ∉ ch → σ1[i]? = σ[i]?) → Q σ1 H) → g vs σ H Q
def nameB (i : Nat) : Bd := fun d ρ => some (ρ.set i d)
def nilB : Bds := fun ds ρ => match ds with
  | [] => some ρ
  | _ => none
def consB (b : Bd) (c : Bds) : Bds := fun ds ρ => match ds with
  | d :: r => (b d ρ).bind fun ρ1 => c r ρ1
  | [] => none
def tupB (n : Nat) (c : Bds) : Bd := fun d ρ => match d with
  | .tuple ds => if ds.length = n then c ds ρ else none
  | .list ds => if ds.length = n then c ds ρ else none
  | _ => none
section
variable {X : Cx} {P : Par2} {pv : List (Nat × V)} {M M1 Mt : List Md} {ch ch' : List Nat}
theorem tg_name {x : Str} {i : Nat} {pos : Pos} (hN : X.N.Nodup) (hi : X.N[i]? = some x := by rfl) (hl : i < M.length := by decide) (hp : pv.all (fun p => decide (p.1 ≠ i)) = true := by rfl)
    (hv : Loc X.env.scope x := by first | exact .inl rfl | exact .inr rfl) (hf : X.fn x = true ∨ X.env.scope.names.lookup x = some .local := by first | exact .inl rfl | exact .inr rfl) :
    TTg X P pv M (M.set i .frz) [i] (.Name x pos) (gName i) (nameB i) :=
  ⟨pg_name hN hi hv hf, fun B G F ρ ρ1 σ ts H d v Q s r e k => by
    cases e
    exact k _ ((s.push r).store hl fun p hpp => of_decide_eq_true (List.all_eq_true.mp hp p hpp)) fun j hj => List.getElem?_set_ne fun z => hj (by simp [z])⟩
theorem tgs_nil : TTgs X P pv M M [] [] gNil nilB :=
  ⟨pgs_nil, fun B G F ρ ρ1 σ ts H ds vs Q s r e k => by
    cases r with
    | nil => cases e; exact ⟨rfl, k _ s fun _ _ => rfl⟩
    | cons => cases e⟩
theorem tgs_cons {e : Expr} {es : List Expr} {g : TG} {gs : TGs} {b : Bd} {c : Bds} (h1 : TTg X P pv M M1 ch e g b) (h2 : TTgs X P pv M1 Mt ch' es gs c)
    (hs : (assignEach (e :: es) X.env).map (·.2) = assign e X.env :: (assignEach es X.env).map (·.2) := by rfl) : TTgs X P pv M Mt (ch ++ ch') (e :: es) (gCons g gs) (consB b c) :=
  ⟨pgs_cons h1.pg h2.pg hs, fun B G F ρ ρ1 σ ts H ds vs Q s r e k => by
    cases r with
    | nil => cases e
    | cons a r =>
      rename_i v vs d ds
      have e : (b d ρ).bind (fun ρ1 => c ds ρ1) = some ρ1 := e
      obtain ⟨ρ2, e1, e2⟩ := Option.bind_eq_some_iff.mp e
      refine ⟨v, vs, rfl, h1.rd B G F ρ ρ2 σ ts H d v _ s a e1 fun σ2 s2 k2 => ?_⟩
      refine h2.rd B G F ρ2 ρ1 σ2 ts H ds vs _ s2 r e2 fun σ3 s3 k3 => k σ3 s3 fun i hi => ?_
      rw [k3 i fun z => hi (List.mem_append_right _ z), k2 i fun z => hi (List.mem_append_left _ z)]⟩
/-- (a, b, ..) = a tuple or a list of that length -/
def gSeq (K : PySem.W.Frag) (n : Nat) (t : TGs) : TG := fun v σ H Q => gTup K n t v σ H Q ∨ gUnl K n t v σ H Q
theorem pg_seq {es : List Expr} {k : Nat} {t : TGs} {n : Nat} {pos : Pos} (hc : X.calm = true) (h : PGs X es t)
    (hn : (assignEach es X.env).length = n) (hst : (assignEach es X.env).findIdx? (·.1) = none) : PG X (.Tuple es k pos) (gSeq X.K n t) :=
  ⟨fun pins s σ H v u Q I r hw => hw.elim (fun hw => (pg_tup hc h hn hst).run pins s σ H v u Q I r hw) fun hw => (pg_unl hc h hn hst).run pins s σ H v u Q I r hw⟩
theorem tg_tup {es : List Expr} {kk n : Nat} {k : Nat} {gs : TGs} {c : Bds} {pos : Pos} (C : CtxOk X P k) (h : TTgs X P pv M Mt ch es gs c) (hn : (assignEach es X.env).length = n := by rfl) (hst : (assignEach es X.env).findIdx? (·.1) = none := by rfl) :
    TTg X P pv M Mt ch (.Tuple es kk pos) (gSeq X.K n gs) (tupB n c) :=
  ⟨pg_seq C.hc h.pg hn hst, fun B G F ρ ρ1 σ ts H d v Q s r e kq => by
    cases r with
    | @tup a vs ds sq r =>
      have e : (if ds.length = n then c ds ρ else none) = some ρ1 := e
      by_cases hl : ds.length = n
      · rw [if_pos hl] at e
        exact .inl ⟨a, vs, rfl, by rw [C.hK]; exact sq, by rw [r.length, hl], h.rd B G F ρ ρ1 σ ts H ds vs _ s r e kq⟩
      · rw [if_neg hl] at e; cases e
    | @lst a vs ds _ ha r =>
      have e : (if ds.length = n then c ds ρ else none) = some ρ1 := e
      by_cases hl : ds.length = n
      · rw [if_pos hl] at e
        exact .inr ⟨a, vs, rfl, SqL.of ha, by rw [r.length, hl], h.rd B G F ρ ρ1 σ ts H ds vs _ s r e kq⟩
      · rw [if_neg hl] at e; cases e
    | _ => cases e⟩

/-! ### assignments to targets -/
variable {J : Sg}
def asgF (b : Bd) (fa : Fn') : FnS := withE fa fun d ρ => match b d ρ with
  | some ρ1 => .ok (.nx ρ1)
  | none => .bad
theorem st_asg {tg e : Expr} {g : TG} {b : Bd} {fa : Fn'} {pos : Pos} (he : TO X P J.pv M J.W e (.tm .frz) fa) (hg : TTg X P J.pv M Mt ch tg g b) (hx : leM M J.Mx = true := by rfl)
    (hs : swapsWithSole [tg] e pos.line X.env = pure false := by rfl) (hw : swappedStores [tg] e X.env = pure none := by rfl) (h1 : (assignEach [tg] X.env).map (·.2) = [assign tg X.env] := by rfl) :
    PS X (.Assign [tg] e pos) (tS P J M Mt (asgF b fa)) :=
  (ps_asg he.pe hg.pg hs hw h1).imp fun E σ H q => expr_in (o := .tm .frz) hx q fun B G F F0 ρ ρ' ts d v H' _ s _ k => by
    have k : PostS P J B G F ts Mt E (match b d ρ' with | some ρ1 => .ok (.nx ρ1) | none => .bad) := k
    cases e1 : b d ρ' with
    | none => rw [e1] at k; exact k.elim
    | some ρ1 =>
      rw [e1] at k
      have s' : Stt P B G F J.pv M ρ' σ ((.frz, d, some v) :: ts) H' := s
      exact hg.rd B G F ρ' ρ1 σ ts H' d v _ s'.drop1 (s'.w.rf_frz List.mem_cons_self) e1 fun σ1 s1 _ => k σ1 H' F s1 fun _ z => z

/-! ### what loops walk -/
def Walk (P : Par) (J : It) (us : List Ent) (ds : List D) : Prop :=
  ∀ (B : Hp) (G F : Addr → Prop) (es : List Ent) (H : Hp), World P B G F es H → (∀ e ∈ us, e ∈ es) → ∀ i : Nat,
    (∀ d, ds[i]? = some d → J.go i H ∧ ∀ x H', J.yld i H x H' → ∃ F', (∀ a, F a → F' a) ∧ World P B G F' es H' ∧ RF P H' F' x d) ∧ (ds.length ≤ i → J.stop i H)
abbrev FnI := Env' → R (List D × Env')
def tI (P : Par2) (pv : List (Nat × V)) (M : List Md) (W : WX) (f : FnI) : TI := fun σ H R => ∃ B G F ρ ts, Stt P B G F pv M ρ σ ts H ∧ match f ρ with
  | .ok (ds, ρ') => ∀ J us H' F', Stt P B G F' pv M ρ' σ (us ++ ts) H' → (∀ a, F a → F' a) → Walk P.toPar J us ds → R J H'
  | .exc c xs ρ' => ∀ cls dx H' F', Stt P B G F' pv M ρ' σ ts H' → ExcAt P H' F' c xs cls dx → (∀ a, F a → F' a) → W cls dx σ H'
  | .bad => False
theorem _root_.L2.PI.imp {X : Cx} {tg e : Expr} {t t' : TI} (h : PI X tg e t) (k : ∀ σ H Q, t' σ H Q → t σ H Q) : PI X tg e t' := ⟨fun pins s σ H Q I q => h.run pins s σ H Q I (k _ _ _ q)⟩
def seqD : D → Option (List D)
  | .tuple ds => some ds
  | .list ds => some ds
  | _ => none
def seqI (fa : Fn') : FnI := fun ρ => fa ρ >>= fun x => ofO ((seqD x.1).map fun ds => (ds, x.2))
variable {W : WX} {k : Nat}
def iSeq (K : PySem.W.Frag) (tl : TE) : TI := fun σ H R => tl σ H fun x H1 => ∃ a, x = .ref a ∧ (((∃ xs, SqL K H1 a xs) ∧ R (Itl K a) H1) ∨ ((∃ xs, SqT K H1 a xs) ∧ R (Itt K a) H1))
theorem pi_seq {tg l : Expr} {tl : TE} (hl : PE X l tl) : PI X tg l (iSeq X.K tl) := by
  refine ⟨fun pins s σ H R I h => ?_⟩
  refine thn (hl.run pins s σ H _ I h) fun v s1 ⟨x, H1, I1, r1, q1⟩ => ?_
  obtain ⟨a, e, q⟩ := q1
  subst e
  cases r1
  rcases q with ⟨⟨xs, hq⟩, q⟩ | ⟨⟨xs, hq⟩, q⟩
  · obtain ⟨its, rv, p, hz⟩ := I1.list hq
    refine wpAny_pyIter_list p.isList ?_
    refine ⟨s1.heap.objs.size, [s1.heap.objs.size], _, _, H1, rfl, I1.kept (t' := s1.toks) fun b o e => Heap.get?_push_of_some _ e, turn_list a _, ⟨_, Heap.get?_push_size _ rfl, rfl, rfl⟩, fun b hb => ?_, q⟩
    have e : b = s1.heap.objs.size := by simpa using hb
    subst e
    exact I1.fpOk (Nat.le_refl _) (I1.hok.fresh (Nat.le_refl _))
  · obtain ⟨its, rv, p, hz⟩ := I1.tuple hq
    refine wpAny_pyIter_tuple (show s1.heap.IsTuple a its.toArray from p) ?_
    refine ⟨s1.heap.objs.size, [s1.heap.objs.size], _, _, H1, rfl, I1.kept (t' := s1.toks) fun b o e => Heap.get?_push_of_some _ e, turn_tuple a _, ⟨_, Heap.get?_push_size _ rfl, rfl, rfl⟩, fun b hb => ?_, q⟩
    have e : b = s1.heap.objs.size := by simpa using hb
    subst e
    exact I1.fpOk (Nat.le_refl _) (I1.hok.fresh (Nat.le_refl _))
theorem walk_lst {K : PySem.W.Frag} {P : Par} (hK : K = P.K) {a : Addr} {ds : List D} : Walk P (Itl K a) [(.frz, .list ds, some (.ref a))] ds := fun B G F es H w hu i => by
  have r := w.rf_frz (hu _ List.mem_cons_self)
  cases r with
  | @lst _ vs _ _ e r =>
    refine ⟨fun d hd => ?_, fun hi => ⟨vs, SqL.of e, by rw [r.length]; exact hi⟩⟩
    obtain ⟨v, ev, rv⟩ := r.get hd
    refine ⟨⟨vs, v, SqL.of e, ev⟩, fun x H' y => ?_⟩
    obtain ⟨rfl, y⟩ := y
    have := y vs (SqL.of e)
    rw [ev] at this; cases this
    exact ⟨F, fun _ z => z, w, rv⟩
theorem walk_tup {K : PySem.W.Frag} {P : Par} (hK : K = P.K) {a : Addr} {ds : List D} : Walk P (Itt K a) [(.frz, .tuple ds, some (.ref a))] ds := fun B G F es H w hu i => by
  have r := w.rf_frz (hu _ List.mem_cons_self)
  cases r with
  | @tup _ vs _ e r =>
    have e : SqT K H a vs := by rw [hK]; exact e
    refine ⟨fun d hd => ?_, fun hi => ⟨vs, e, by rw [r.length]; exact hi⟩⟩
    obtain ⟨v, ev, rv⟩ := r.get hd
    refine ⟨⟨vs, v, e, ev⟩, fun x H' y => ?_⟩
    obtain ⟨rfl, y⟩ := y
    have := y vs e
    rw [ev] at this; cases this
    exact ⟨F, fun _ z => z, w, rv⟩
theorem walk_rng {P : Par} {lo : Int} {n : Nat} : Walk P (Itr lo n) [] ((List.range n).map fun (i : Nat) => PyData.int (lo + (i : Int))) := fun B G F es H w hu i => by
  refine ⟨fun d hd => ?_, fun hi => ?_⟩
  · have hi : i < n := by
      have := (List.getElem?_eq_some_iff.mp hd).1
      simpa using this
    refine ⟨hi, fun x H' y => ?_⟩
    obtain ⟨rfl, rfl⟩ := y
    refine ⟨F, fun _ z => z, w, ?_⟩
    have : d = .int (lo + (i : Int)) := by
      rw [List.getElem?_map, List.getElem?_range hi] at hd
      exact (Option.some.inj hd).symm
    subst this
    exact .int _
  · show n ≤ i
    simpa using hi
/-- a tuple or a list, frozen -/
theorem is_seq {tg e : Expr} {fa : Fn'} (C : CtxOk X P k) (he : TO X P pv M W e (.tm .frz) fa) : PI X tg e (tI P pv M W (seqI fa)) :=
  (pi_seq he.pe).imp fun σ H R ⟨B, G, F, ρ, ts, s, kk⟩ => by
    refine ⟨B, G, F, ρ, ts, s, ?_⟩
    unfold seqI at kk
    cases e1 : fa ρ with
    | bad => rw [e1] at kk; exact kk
    | exc c xs ρ' => rw [e1] at kk; exact kk
    | ok x =>
      obtain ⟨d, ρ'⟩ := x
      rw [e1] at kk
      intro v H' F' s' _ hF
      have s' : Stt P B G F' pv M ρ' σ ((.frz, d, some v) :: ts) H' := s'
      have r := s'.w.rf_frz List.mem_cons_self
      cases r with
      | @tup a vs ds sq r =>
        exact ⟨a, rfl, .inr ⟨⟨vs, by rw [C.hK]; exact sq⟩, kk _ [(.frz, .tuple ds, some (.ref a))] H' F' s' hF (walk_tup C.hK)⟩⟩
      | @lst a vs ds f ea r =>
        exact ⟨a, rfl, .inl ⟨⟨vs, SqL.of ea⟩, kk _ [(.frz, .list ds, some (.ref a))] H' F' s' hF (walk_lst C.hK)⟩⟩
      | _ => exact kk.elim
noncomputable def okR (i : Int) : Bool := cb (-(2 ^ 62) ≤ i) && cb (i < 2 ^ 62)
def rngD (i j : Int) : List D := (List.range (j - i).toNat).map fun (n : Nat) => PyData.int (i + (n : Int))
noncomputable def rngO : List D → Option (List D)
  | [.int j] => if okR j then some (rngD 0 j) else none
  | [.int i, .int j] => if okR i && okR j then some (rngD i j) else none
  | _ => none
noncomputable def rngI (fa : FnA) : FnI := fun ρ => fa ρ >>= fun x => ofO ((rngO x.1).map fun ds => (ds, x.2))
end
end Z

set_option maxRecDepth 100000
set_option maxHeartbeats 1000000
namespace Z
open PySem PySem.Spec PyProof.Rows L2

section
variable {X : Cx} {P : Par2} {pv : List (Nat × V)} {M Mt Mn Ml : List Md} {W : WX} {J : Sg} {k : Nat} {ch : List Nat}
/-! ### range -/
theorem rng1_post {a : Expr} {fa : FnA} {tg : Expr} {p pos : Pos} (hg : Gl X "range") (hm : X.mg "range" = none) (ha : TAs X P pv M W [a] [.tm .frz] fa) (hs : starEach [a] X.env = [(false, eval a X.env)] := by rfl) : PI X tg (.Call (.Name "range" p) [a] [] pos) (tI P pv M W (rngI fa)) :=
  (pi_range1 hg hm ha.pa hs).imp fun σ H Rq ⟨B, G, F, ρ, ts, s, kk⟩ => by
    refine ⟨B, G, F, ρ, ts, s, ?_⟩
    unfold rngI at kk
    cases e1 : fa ρ with
    | bad => rw [e1] at kk; exact kk
    | exc c xs ρ' => rw [e1] at kk; exact kk
    | ok x =>
      obtain ⟨ds, ρ'⟩ := x
      rw [e1] at kk
      intro vs H' F' s' hh hF
      have r := ha.frozen (by simp) e1 s' hh
      have hl := ha.len _ _ _ e1
      cases r with
      | nil => simp at hl
      | cons rv rr =>
        cases rr with
        | cons => simp at hl
        | nil =>
          cases rv with
          | int j =>
            have kk : match (ofO ((if okR j then some (rngD 0 j) else none).map fun ds => (ds, ρ')) : R (List D × Env')) with
              | .ok (ds, ρ') => ∀ J us H' F', Stt P B G F' pv M ρ' σ (us ++ ts) H' → (∀ a, F a → F' a) → Walk P.toPar J us ds → Rq J H'
              | .exc c xs ρ' => ∀ cls dx H' F', Stt P B G F' pv M ρ' σ ts H' → ExcAt P H' F' c xs cls dx → (∀ a, F a → F' a) → W cls dx σ H'
              | .bad => False := kk
            by_cases hj : okR j = true
            · rw [if_pos hj] at kk
              have hj' := hj
              simp only [okR, Bool.and_eq_true, decide_eq_true_eq, cb_eq] at hj'
              refine ⟨j, rfl, hj'.1, hj'.2, kk _ [] H' F' s'.dropL hF ?_⟩
              have := walk_rng (P := P.toPar) (lo := 0) (n := j.toNat)
              unfold rngD
              rw [Int.sub_zero]
              exact this
            · rw [if_neg hj] at kk; exact kk.elim
          | _ => exact kk.elim
theorem rng2_post {a b : Expr} {fa : FnA} {tg : Expr} {p pos : Pos} (hg : Gl X "range") (hm : X.mg "range" = none) (ha : TAs X P pv M W [a, b] [.tm .frz, .tm .frz] fa) (hs : starEach [a, b] X.env = [(false, eval a X.env), (false, eval b X.env)] := by rfl) (hs2 : starEach [b] X.env = [(false, eval b X.env)] := by rfl) : PI X tg (.Call (.Name "range" p) [a, b] [] pos) (tI P pv M W (rngI fa)) :=
  (pi_range2 hg hm ha.pa hs hs2).imp fun σ H Rq ⟨B, G, F, ρ, ts, s, kk⟩ => by
    refine ⟨B, G, F, ρ, ts, s, ?_⟩
    unfold rngI at kk
    cases e1 : fa ρ with
    | bad => rw [e1] at kk; exact kk
    | exc c xs ρ' => rw [e1] at kk; exact kk
    | ok x =>
      obtain ⟨ds, ρ'⟩ := x
      rw [e1] at kk
      intro vs H' F' s' hh hF
      have r := ha.frozen (by simp) e1 s' hh
      have hl := ha.len _ _ _ e1
      cases r with
      | nil => simp at hl
      | cons rv rr =>
        cases rr with
        | nil => simp at hl
        | cons rw_ rr =>
          cases rr with
          | cons => simp at hl
          | nil =>
            cases rv with
            | int i =>
              cases rw_ with
              | int j =>
                have kk : match (ofO ((if okR i && okR j then some (rngD i j) else none).map fun ds => (ds, ρ')) : R (List D × Env')) with
                  | .ok (ds, ρ') => ∀ J us H' F', Stt P B G F' pv M ρ' σ (us ++ ts) H' → (∀ a, F a → F' a) → Walk P.toPar J us ds → Rq J H'
                  | .exc c xs ρ' => ∀ cls dx H' F', Stt P B G F' pv M ρ' σ ts H' → ExcAt P H' F' c xs cls dx → (∀ a, F a → F' a) → W cls dx σ H'
                  | .bad => False := kk
                by_cases hj : (okR i && okR j) = true
                · rw [if_pos hj] at kk
                  have hj' := hj
                  simp only [okR, Bool.and_eq_true, decide_eq_true_eq, cb_eq] at hj'
                  refine ⟨i, j, rfl, ⟨hj'.1.1, hj'.1.2, hj'.2.1, hj'.2.2⟩, kk _ [] H' F' s'.dropL hF ?_⟩
                  exact walk_rng (P := P.toPar) (lo := i) (n := (j - i).toNat)
                · rw [if_neg hj] at kk; exact kk.elim
              | _ => exact kk.elim
            | _ => cases rw_ <;> exact kk.elim

/-! ### for -/
/-- one turn: then what is behind it -/
def thenL (k : FnS) (r : R Fl) : R Fl := match r with
  | .ok (.nx ρ) => k ρ
  | .ok (.ct ρ) => k ρ
  | .ok (.brk ρ) => .ok (.nx ρ)
  | .ok (.ret d ρ) => .ok (.ret d ρ)
  | .exc c xs ρ => .exc c xs ρ
  | .bad => .bad
def loopF (b : Bd) (f : FnS) : List D → FnS
  | [], ρ => .ok (.nx ρ)
  | d :: ds, ρ => match b d ρ with
    | some ρ1 => thenL (loopF b f ds) (f ρ1)
    | none => .bad
def forF (fs : FnI) (b : Bd) (f : FnS) : FnS := fun ρ => fs ρ >>= fun x => loopF b f x.1 x.2
theorem PostS.us {B : Hp} {G F : Addr → Prop} {ts us : List Ent} {E : Ends} {r : R Fl} (q : PostS P J B G F ts Mn E r) : PostS P J B G F (us ++ ts) Mn E r := by
  cases r with
  | bad => exact q
  | exc c xs ρ' => exact fun cls dx σ' H' F' s' hx hF' => q cls dx σ' H' F' s'.dropL hx hF'
  | ok fl =>
    cases fl with
    | nx ρ' => exact fun σ' H' F' s' hF' => q σ' H' F' s'.dropL hF'
    | ret d ρ' => exact fun v σ' H' F' s' hF' => q v σ' H' F' s'.dropM hF'
    | brk ρ' => exact fun σ' H' F' s' hF' => q σ' H' F' s'.dropL hF'
    | ct ρ' => exact fun σ' H' F' s' hF' => q σ' H' F' s'.dropL hF'
theorem st_for {tg iter : Expr} {body : List Stmt} {fs : FnI} {g : TG} {b : Bd} {f : FnS} {pos : Pos} (C : CtxOk X P k) (hp : PassesOwn (model X.prog X.w) X.A X.env X.xe) (hi : PI X tg iter (tI P J.pv M J.W fs)) (hg : TTg X P J.pv Ml Mt ch tg g b)
    (hb : PSs X body (tS P { J with Mb := Mn, Mc := Ml } Mt Ml f)) (h0 : leM M Ml = true := by rfl) (h1 : leM Ml Mn = true := by rfl) (hx : leM M J.Mx = true := by rfl)
    (hs : ∀ x, foldedSetIterable iter X.env x = pure x := by intro _; rfl) : PS X (.For tg iter body [] pos) (tS P J M Mn (forF fs b f)) :=
  (ps_for hp C.hc hi hg.pg hb hs).imp fun E σ H ⟨B, G, F, ρ, ts, s, kk⟩ => by
    refine ⟨B, G, F, ρ, ts, s, ?_⟩
    have kk : PostS P J B G F ts Mn E (fs ρ >>= fun x => loopF b f x.1 x.2) := kk
    cases e1 : fs ρ with
    | bad => rw [e1] at kk; exact kk
    | exc c xs ρ' =>
      rw [e1] at kk
      intro cls dx H' F' s' hx' hF'
      exact kk cls dx σ H' F' (s'.le hx) hx' hF'
    | ok x =>
      obtain ⟨ds, ρ'⟩ := x
      rw [e1] at kk
      intro J1 us H1 F1 s1 hF1 wk
      refine ⟨fun i m σ H => m = ds.length - i ∧ i ≤ ds.length ∧ ∃ F2 ρ2, Stt P B G F2 J.pv Ml ρ2 σ (us ++ ts) H ∧ PostS P J B G F2 ts Mn E (loopF b f (ds.drop i) ρ2), ⟨_, rfl, Nat.zero_le _, F1, ρ', s1.le h0, PostS.mono hF1 kk⟩, ?_⟩
      rintro i m σ2 H2 ⟨rfl, hi, F2, ρ2, s2, q⟩
      have wi := wk B G F2 _ H2 s2.w (fun e he => List.mem_append_left _ (List.mem_append_left _ he)) i
      by_cases hlt : i < ds.length
      · have ed : ds[i]? = some ds[i] := List.getElem?_eq_getElem hlt
        obtain ⟨hgo, hy⟩ := wi.1 _ ed
        refine .inr ⟨hgo, fun σ H => ∃ F2 ρ2, Stt P B G F2 J.pv Ml ρ2 σ (us ++ ts) H ∧ PostS P J B G F2 ts Mn E (loopF b f (ds.drop (i + 1)) ρ2), fun σ' H' hq => ⟨_, by omega, rfl, hlt, hq⟩, fun x H' hyl => ?_⟩
        obtain ⟨F3, hF3, w3, r3⟩ := hy x H' hyl
        have s3 : Stt P B G F3 J.pv Ml ρ2 σ2 (us ++ ts) H' := s2.to w3
        rw [List.drop_eq_getElem_cons hlt] at q
        have q : PostS P J B G F2 ts Mn E (match b ds[i] ρ2 with | some ρ1 => thenL (loopF b f (ds.drop (i + 1))) (f ρ1) | none => .bad) := q
        cases e2 : b ds[i] ρ2 with
        | none => rw [e2] at q; exact q.elim
        | some ρ3 =>
          rw [e2] at q
          refine hg.rd B G F3 ρ2 ρ3 σ2 _ H' _ x _ s3 r3 e2 fun σ3 s4 _ => ⟨B, G, F3, ρ3, us ++ ts, s4, ?_⟩
          have q : PostS P J B G F3 ts Mn E (thenL (loopF b f (ds.drop (i + 1))) (f ρ3)) := PostS.mono hF3 q
          cases e3 : f ρ3 with
          | bad => rw [e3] at q; exact q
          | exc c xs ρ' =>
            rw [e3] at q
            exact fun cls dx σ' H' F' s' hx hF' => q cls dx σ' H' F' s'.dropL hx hF'
          | ok fl =>
            rw [e3] at q
            cases fl with
            | nx ρ' => exact fun σ' H' F' s' hF' => ⟨F', ρ', s', PostS.mono hF' q⟩
            | ret d ρ' => exact fun v σ' H' F' s' hF' => q v σ' H' F' s'.dropM hF'
            | brk ρ' => exact fun σ' H' F' s' hF' => q σ' H' F' s'.dropL hF'
            | ct ρ' => exact fun σ' H' F' s' hF' => ⟨F', ρ', s', PostS.mono hF' q⟩
      · have e : i = ds.length := by omega
        subst e
        refine .inl ⟨wi.2 (Nat.le_refl _), ?_⟩
        rw [List.drop_length] at q
        exact q σ2 H2 F2 (s2.dropL.le h1) fun _ z => z

/-! ### while -/
def whileN (c : Fn') (f : FnS) : Nat → FnS
  | 0, _ => .bad
  | n + 1, ρ => c ρ >>= fun x => match x.1 with
    | .bool true => thenL (whileN c f n) (f x.2)
    | .bool false => .ok (.nx x.2)
    | _ => .bad
open Classical in
noncomputable def whileF (c : Fn') (f : FnS) : FnS := fun ρ => if h : ∃ n r, whileN c f n ρ = r ∧ r ≠ .bad then whileN c f h.choose ρ else .bad
theorem whileN_mono {c : Fn'} {f : FnS} : ∀ {n : Nat} {ρ : Env'} {r : R Fl}, whileN c f n ρ = r → r ≠ .bad → ∀ m, n ≤ m → whileN c f m ρ = r
  | 0, _, _, h, hr, _, _ => absurd h.symm hr
  | n + 1, ρ, r, h, hr, 0, hm => by omega
  | n + 1, ρ, r, h, hr, m + 1, hm => by
    subst h
    show (c ρ >>= fun x => match x.1 with | .bool true => thenL (whileN c f m) (f x.2) | .bool false => .ok (.nx x.2) | _ => .bad) = (c ρ >>= fun x => match x.1 with | .bool true => thenL (whileN c f n) (f x.2) | .bool false => .ok (.nx x.2) | _ => .bad)
    have hr : (c ρ >>= fun x => match x.1 with | .bool true => thenL (whileN c f n) (f x.2) | .bool false => .ok (.nx x.2) | _ => .bad) ≠ .bad := hr
    cases e : c ρ with
    | bad => rfl
    | exc => rfl
    | ok x =>
      rw [e] at hr
      obtain ⟨d, ρ1⟩ := x
      cases d with
      | bool b =>
        cases b with
        | true =>
          have hr : thenL (whileN c f n) (f ρ1) ≠ .bad := hr
          show thenL (whileN c f m) (f ρ1) = thenL (whileN c f n) (f ρ1)
          cases e2 : f ρ1 with
          | bad => rfl
          | exc => rfl
          | ok fl =>
            rw [e2] at hr
            cases fl with
            | nx ρ2 => exact whileN_mono rfl hr m (by omega)
            | ct ρ2 => exact whileN_mono rfl hr m (by omega)
            | brk => rfl
            | ret => rfl
        | false => rfl
      | _ => rfl
theorem whileF_eq {c : Fn'} {f : FnS} {n : Nat} {ρ : Env'} {r : R Fl} (h : whileN c f n ρ = r) (hr : r ≠ .bad) : whileF c f ρ = r := by
  have hx : ∃ n r, whileN c f n ρ = r ∧ r ≠ .bad := ⟨n, r, h, hr⟩
  unfold whileF
  rw [dif_pos hx]
  obtain ⟨r', h1, h2⟩ := hx.choose_spec
  have a := whileN_mono h hr (max n hx.choose) (Nat.le_max_left _ _)
  have b := whileN_mono h1 h2 (max n hx.choose) (Nat.le_max_right _ _)
  rw [h1, ← b, a]
theorem st_while {c : Expr} {body : List Stmt} {fc : Fn'} {f : FnS} {pos : Pos} (hp : PassesOwn (model X.prog X.w) X.A X.env X.xe) (hc : PT X c (tT P J.pv Ml J.W fc))
    (hb : PSs X body (tS P { J with Mb := Mn, Mc := Ml } Ml Ml f)) (h0 : leM M Ml = true := by rfl) (h1 : leM Ml Mn = true := by rfl) (hx : leM Ml J.Mx = true := by rfl) : PS X (.While c body [] pos) (tS P J M Mn (whileF fc f)) :=
  (ps_while hp hc hb).imp fun E σ H ⟨B, G, F, ρ, ts, s, kk⟩ => by
    unfold whileF at kk
    split at kk
    · rename_i hn
      generalize hn.choose = N at kk
      refine ⟨fun m σ H => ∃ F2 ρ2, Stt P B G F2 J.pv Ml ρ2 σ ts H ∧ PostS P J B G F2 ts Mn E (whileN fc f m ρ2), ⟨N, F, ρ, s.le h0, kk⟩, ?_⟩
      rintro m σ2 H2 ⟨F2, ρ2, s2, q⟩
      cases m with
      | zero => exact q.elim
      | succ m =>
        refine ⟨B, G, F2, ρ2, ts, s2, ?_⟩
        have q : PostS P J B G F2 ts Mn E (fc ρ2 >>= fun x => match x.1 with | .bool true => thenL (whileN fc f m) (f x.2) | .bool false => .ok (.nx x.2) | _ => .bad) := q
        cases e : fc ρ2 with
        | bad => rw [e] at q; exact q
        | exc c xs ρ' =>
          rw [e] at q
          exact fun cls dx H' F' s' hx' hF' => q cls dx σ2 H' F' (s'.le hx) hx' hF'
        | ok x =>
          rw [e] at q
          obtain ⟨d, ρ3⟩ := x
          cases d with
          | bool b =>
            intro H3 F3 s3 hF3
            cases b with
            | true =>
              refine (if_pos rfl).mpr ⟨fun σ H => ∃ F2 ρ2, Stt P B G F2 J.pv Ml ρ2 σ ts H ∧ PostS P J B G F2 ts Mn E (whileN fc f m ρ2), fun σ' H' hq => ⟨m, Nat.lt_succ_self _, hq⟩, B, G, F3, ρ3, ts, s3, ?_⟩
              have q : PostS P J B G F3 ts Mn E (thenL (whileN fc f m) (f ρ3)) := PostS.mono hF3 q
              cases e3 : f ρ3 with
              | bad => rw [e3] at q; exact q
              | exc c xs ρ' =>
                rw [e3] at q
                exact q
              | ok fl =>
                rw [e3] at q
                cases fl with
                | nx ρ' => exact fun σ' H' F' s' hF' => ⟨F', ρ', s', PostS.mono hF' q⟩
                | ret d ρ' => exact q
                | brk ρ' => exact q
                | ct ρ' => exact fun σ' H' F' s' hF' => ⟨F', ρ', s', PostS.mono hF' q⟩
            | false => exact (if_neg Bool.false_ne_true).mpr (q σ2 H3 F3 (s3.le h1) hF3)
          | none => exact q.elim
          | int i => exact q.elim
          | str i => exact q.elim
          | list i => exact q.elim
          | tuple i => exact q.elim
          | dict i => exact q.elim
    · exact kk.elim
end
end Z

set_option maxRecDepth 100000
set_option maxHeartbeats 1000000
namespace Z
open PySem PySem.Spec PyProof.Rows L2

/-- nothing is raised -/
def W0 : WX := fun _ _ _ _ => False
theorem takes0 {X : Cx} : Takes X W0 := fun u s' ⟨a, B, sI, pins, σ, H, cls, d, e, I, nb, up, sky, na, os, ag, w⟩ => w.elim
theorem CtxOk.blk {X : Cx} {P : Par2} {k : Nat} (C : CtxOk X P k) {s : Shared} {H : Hp} {scope : Scope} {cenv : Env} {fp : List Addr} : CtxOk (X.blk s H scope cenv fp) P k := ⟨C.hK, C.hs, C.hg, C.hr, C.hc⟩
section
variable {X : Cx} {P : Par2} {pv : List (Nat × V)} {M Mt Mn Ml : List Md} {W : WX} {J : Sg} {k : Nat} {ch : List Nat}
/-- dead slots hold anything -/
theorem slots_alt {B H : Hp} {G F : Addr → Prop} : ∀ {M : List Md} {ρ ρ' : Env'} {σ σ' : L2.St} {ts : List Ent}, ρ.length = M.length → ρ'.length = M.length → σ.length = M.length → σ'.length = M.length → (∀ (i : Nat) (m : Md), M[i]? = some m → m ≠ .dead → σ'[i]? = σ[i]? ∧ ρ'[i]? = ρ[i]?) → World P.toPar B G F (ts ++ slots M ρ σ) H → World P.toPar B G F (ts ++ slots M ρ' σ') H
  | [], _, _, _, _, _, _, _, _, _, _, w => w
  | m :: M, d :: ρ, d' :: ρ', v :: σ, v' :: σ', ts, l1, l2, l3, l4, h, w => by
    have w1 : World P.toPar B G F ((ts ++ [(m, d, v)]) ++ slots M ρ σ) H := by
      rw [List.append_assoc]; exact w
    have w2 := slots_alt (M := M) (ρ := ρ) (ρ' := ρ') (σ := σ) (σ' := σ') (by simpa using l1) (by simpa using l2) (by simpa using l3) (by simpa using l4) (fun i m e hm => by simpa using h (i + 1) m (by simpa using e) hm) w1
    rw [List.append_assoc] at w2
    by_cases hm : m = .dead
    · subst hm
      have w3 : World P.toPar B G F ((.dead, d, v) :: (ts ++ slots M ρ' σ')) H := w2.perm List.perm_middle
      exact (w3.drop1.dead_cons (d := d') (v := v')).perm List.perm_middle.symm
    · obtain ⟨e1, e2⟩ := h 0 m rfl hm
      simp only [List.getElem?_cons_zero, Option.some.injEq] at e1 e2
      subst e1 e2
      exact w2
  | _ :: _, [], _, _, _, _, h, _, _, _, _, _ => by simp at h
  | _ :: _, _ :: _, [], _, _, _, _, h, _, _, _, _ => by simp at h
  | _ :: _, _ :: _, _ :: _, [], _, _, _, _, h, _, _, _ => by simp at h
  | _ :: _, _ :: _, _ :: _, _ :: _, [], _, _, _, _, h, _, _ => by simp at h
theorem Stt.alt {B H : Hp} {G F : Addr → Prop} {ρ ρ' : Env'} {σ σ' : L2.St} {ts : List Ent} {vs : List Nat} (s : Stt P B G F pv M ρ σ ts H) (hd : vs.all (fun i => decide (M[i]? = some .dead)) = true) (hp : pv.all (fun p => decide (p.1 ∉ vs)) = true)
    (l1 : ρ'.length = ρ.length) (l2 : σ'.length = σ.length) (h1 : ∀ i : Nat, i ∉ vs → ρ'[i]? = ρ[i]?) (h2 : ∀ i : Nat, i ∉ vs → σ'[i]? = σ[i]?) : Stt P B G F pv M ρ' σ' ts H := by
  refine ⟨slots_alt s.lr (by rw [l1, s.lr]) s.ls (by rw [l2, s.ls]) (fun i m e hm => ?_) s.w, by rw [l1, s.lr], by rw [l2, s.ls], fun p hpp => ?_⟩
  · have : i ∉ vs := fun z => by
      have := of_decide_eq_true (List.all_eq_true.mp hd i z)
      rw [e] at this
      exact hm (Option.some.inj this)
    exact ⟨h2 i this, h1 i this⟩
  · rw [h2 _ (of_decide_eq_true (List.all_eq_true.mp hp p hpp))]
    exact s.pv p hpp
def noX {α : Type} : R α → R α
  | .ok a => .ok a
  | _ => .bad
def yesF : Fn' := fun ρ => .ok (.bool true, ρ)
def wipeE (ρ : Env') : List Nat → Env'
  | [] => ρ
  | v :: vs => (wipeE ρ vs).set v .none
theorem wipeE_length (ρ : Env') : ∀ vs : List Nat, (wipeE ρ vs).length = ρ.length
  | [] => rfl
  | v :: vs => by unfold wipeE; rw [List.length_set, wipeE_length ρ vs]
theorem wipeE_out {ρ : Env'} {i : Nat} : ∀ {vs : List Nat}, i ∉ vs → (wipeE ρ vs)[i]? = ρ[i]?
  | [], _ => rfl
  | v :: vs, h => by
    unfold wipeE
    rw [List.getElem?_set_ne (fun z => h (by simp [z])), wipeE_out fun z => h (List.mem_cons_of_mem _ z)]
theorem wipe_of {σ σ' : L2.St} {vs : List Nat} (l : σ'.length = σ.length) (h : ∀ i, i ∉ vs → σ'[i]? = σ[i]?) : wipe σ' vs = wipe σ vs := by
  refine List.ext_getElem? fun i => ?_
  by_cases z : i ∈ vs
  · have in_ : ∀ (σ : L2.St) (vs : List Nat), i ∈ vs → i < σ.length → (wipe σ vs)[i]? = some none := fun σ vs => by
      induction vs with
      | nil => exact fun z => absurd z (by simp)
      | cons v vs ih =>
        intro z hi
        unfold wipe
        by_cases e : v = i
        · subst e
          rw [List.getElem?_set_self (by rw [wipe_length]; exact hi)]
        · rw [List.getElem?_set_ne e]
          exact ih ((List.mem_cons.mp z).resolve_left fun q => e q.symm) hi
    by_cases hi : i < σ.length
    · rw [in_ _ _ z hi, in_ _ _ z (by rw [l]; exact hi)]
    · rw [List.getElem?_eq_none (by rw [wipe_length]; omega), List.getElem?_eq_none (by rw [wipe_length]; omega)]
  · rw [wipe_out z, wipe_out z, h i z]
def compL (b : Bd) (t fe : Fn') (vs : List Nat) : List D → List D → Env' → R (List D × Env')
  | [], acc, ρ => .ok (acc, ρ)
  | d :: ds, acc, ρ => match b d ρ with
    | none => .bad
    | some ρ1 => noX (t ρ1) >>= fun c => match c.1 with
      | .bool true => noX (fe c.2) >>= fun y => if acc.length < sizeLine then compL b t fe vs ds (acc ++ [y.1]) (wipeE y.2 vs) else .bad
      | .bool false => compL b t fe vs ds acc (wipeE c.2 vs)
      | _ => .bad
def compF (fs : FnI) (b : Bd) (t fe : Fn') (vs : List Nat) : Fn' := fun ρ => fs ρ >>= fun x => compL b t fe vs x.1 [] x.2 >>= fun y => .ok (.list y.1, y.2)
theorem noX_post {α : Type} {r : R α} {K : R α → Prop} (hb : ¬ K .bad) (h : K (noX r)) : ∃ a, r = .ok a ∧ K (.ok a) := by
  cases r with
  | ok a => exact ⟨a, rfl, h⟩
  | exc => exact absurd h hb
  | bad => exact absurd h hb
theorem lc_post {fs : FnI} {g : TG} {b : Bd} {tt : TT} {t fe : Fn'} {vs : List Nat} {m : Md} {te : TE} {σ : L2.St} {H : Hp} {Q : VK}
    (hg : ∀ (B : Hp) (G F : Addr → Prop) (ρ ρ1 : Env') (σ : L2.St) (ts : List Ent) (H : Hp) (d : D) (v : V) (Q : L2.St → Hp → Prop), Stt P B G F pv M ρ σ ts H → RF P.toPar H F v d → b d ρ = some ρ1 →
      (∀ σ1, Stt P B G F pv Mt ρ1 σ1 ts H → (∀ i, i ∉ vs → σ1[i]? = σ[i]?) → Q σ1 H) → g v σ H Q)
    (ht : ∀ σ H Q, tT P pv Mt W0 t σ H Q → tt σ H Q) (he : ∀ σ H Q, tO P pv Mt (.tm m) W0 fe σ H Q → te σ H Q) (hm : m ≠ .dead) (h1 : leM Mt M = true)
    (hd : vs.all (fun i => decide (M[i]? = some .dead)) = true) (hp : pv.all (fun p => decide (p.1 ∉ vs)) = true)
    (h : tO P pv M (.tm (.lst m)) W (compF fs b t fe vs) σ H Q) : tLc (tI P pv M W fs) g tt te vs σ H Q := by
  obtain ⟨B, G, F, ρ, ts, s, kk⟩ := h
  refine ⟨B, G, F, ρ, ts, s, ?_⟩
  have kk : Post P B G F pv M σ ts (.tm (.lst m)) W Q (fs ρ >>= fun x => compL b t fe vs x.1 [] x.2 >>= fun y => .ok (.list y.1, y.2)) := kk
  cases e1 : fs ρ with
  | bad => rw [e1] at kk; exact kk
  | exc c xs ρ' => rw [e1] at kk; exact kk
  | ok x =>
    obtain ⟨ds, ρ'⟩ := x
    rw [e1] at kk
    intro J us H1 F1 s1 hF1 wk D0 hD0
    have kk : Post P B G F1 pv M σ ts (.tm (.lst m)) W Q (compL b t fe vs ds [] ρ' >>= fun y => .ok (.list y.1, y.2)) := by
      revert kk
      show Post P B G F pv M σ ts (.tm (.lst m)) W Q (compL b t fe vs ds [] ρ' >>= fun y => .ok (.list y.1, y.2)) → _
      cases (compL b t fe vs ds [] ρ' >>= fun y => R.ok (PyData.list y.1, y.2)) with
      | bad => exact id
      | exc c xs ρ' => exact fun kk cls dx H' F' s' hx hF => kk cls dx H' F' s' hx fun a z => hF a (hF1 a z)
      | ok x => exact fun kk v H' F' s' hh hF => kk v H' F' s' hh fun a z => hF a (hF1 a z)
    have walt : ∀ {F : Addr → Prop} {ρ : Env'} {σ' : L2.St} {ts : List Ent} {H : Hp}, Stt P B G F pv M ρ σ' ts H → (∀ i, i ∉ vs → σ'[i]? = σ[i]?) → σ'.length = σ.length → Stt P B G F pv M (wipeE ρ vs) (wipe σ vs) ts H := fun {F ρ σ' ts H} s hq hl =>
      s.alt (vs := vs) hd hp (wipeE_length _ _) (by rw [wipe_length, hl]) (fun i hi => wipeE_out hi) fun i hi => by rw [wipe_out hi, hq i hi]
    have s0 : Stt P B G F1 pv M ρ' (wipe σ vs) ((.lst m, .list [], some (.ref D0)) :: (us ++ ts)) (upd H1 D0 (.lst [])) := by
      have a : Stt P B G F1 pv M ρ' σ ((.lst m, .list [], some (.ref D0)) :: (us ++ ts)) (upd H1 D0 (.lst [])) := s1.to (World.lst (m := m) (vs := []) (ds := []) (es := (us ++ ts) ++ slots M ρ' σ) (by simpa [entsOf] using s1.w) hm rfl hD0)
      exact a.alt (vs := vs) hd hp rfl (by rw [wipe_length]) (fun i hi => rfl) fun i hi => wipe_out hi
    refine ⟨fun i n H => n = ds.length - i ∧ i ≤ ds.length ∧ ∃ F2 ρ2 acc, Stt P B G F2 pv M ρ2 (wipe σ vs) ((.lst m, .list acc, some (.ref D0)) :: (us ++ ts)) H ∧ (∀ a, F1 a → F2 a) ∧ Post P B G F1 pv M σ ts (.tm (.lst m)) W Q (compL b t fe vs (ds.drop i) acc ρ2 >>= fun y => .ok (.list y.1, y.2)), ⟨_, rfl, Nat.zero_le _, F1, ρ', [], s0, fun _ z => z, kk⟩, ?_⟩
    rintro i n H2 ⟨rfl, hi, F2, ρ2, acc, s2, hF2, q⟩
    have wi := wk B G F2 _ H2 s2.w (fun e he => List.mem_append_left _ (List.mem_cons_of_mem _ (List.mem_append_left _ he))) i
    by_cases hlt : i < ds.length
    · have ed : ds[i]? = some ds[i] := List.getElem?_eq_getElem hlt
      obtain ⟨hgo, hy⟩ := wi.1 _ ed
      refine .inr ⟨hgo, fun H => ∃ F2 ρ2 acc, Stt P B G F2 pv M ρ2 (wipe σ vs) ((.lst m, .list acc, some (.ref D0)) :: (us ++ ts)) H ∧ (∀ a, F1 a → F2 a) ∧ Post P B G F1 pv M σ ts (.tm (.lst m)) W Q (compL b t fe vs (ds.drop (i + 1)) acc ρ2 >>= fun y => .ok (.list y.1, y.2)), fun H' hq => ⟨_, by omega, rfl, hlt, hq⟩, fun x H' hyl => ?_⟩
      obtain ⟨F3, hF3, w3, r3⟩ := hy x H' hyl
      have s3 : Stt P B G F3 pv M ρ2 (wipe σ vs) ((.lst m, .list acc, some (.ref D0)) :: (us ++ ts)) H' := s2.to w3
      rw [List.drop_eq_getElem_cons hlt] at q
      have q : Post P B G F1 pv M σ ts (.tm (.lst m)) W Q ((match b ds[i] ρ2 with
        | none => .bad
        | some ρ1 => noX (t ρ1) >>= fun c => match c.1 with
          | .bool true => noX (fe c.2) >>= fun y => if acc.length < sizeLine then compL b t fe vs (ds.drop (i + 1)) (acc ++ [y.1]) (wipeE y.2 vs) else .bad
          | .bool false => compL b t fe vs (ds.drop (i + 1)) acc (wipeE c.2 vs)
          | _ => .bad) >>= fun y => .ok (.list y.1, y.2)) := q
      cases e2 : b ds[i] ρ2 with
      | none => rw [e2] at q; exact q.elim
      | some ρ3 =>
        rw [e2] at q
        refine hg B G F3 ρ2 ρ3 _ _ H' _ x _ s3 r3 e2 fun σ3 s4 hch => ?_
        have lσ : σ3.length = (wipe σ vs).length := by rw [s4.ls, s2.ls, leM_len h1]
        refine ⟨by rw [wipe_of lσ hch]; exact wipe_of (wipe_length _ _) fun i hi => wipe_out hi, ht _ _ _ ?_⟩
        have hq3 : ∀ i, i ∉ vs → σ3[i]? = σ[i]? := fun i hi => by rw [hch i hi, wipe_out hi]
        have lq3 : σ3.length = σ.length := by rw [lσ, wipe_length]
        refine ⟨B, G, F3, ρ3, _, s4, ?_⟩
        have q : Post P B G F1 pv M σ ts (.tm (.lst m)) W Q ((noX (t ρ3) >>= fun c => match c.1 with
          | .bool true => noX (fe c.2) >>= fun y => if acc.length < sizeLine then compL b t fe vs (ds.drop (i + 1)) (acc ++ [y.1]) (wipeE y.2 vs) else .bad
          | .bool false => compL b t fe vs (ds.drop (i + 1)) acc (wipeE c.2 vs)
          | _ => .bad) >>= fun y => .ok (.list y.1, y.2)) := q
        cases e3 : t ρ3 with
        | bad => rw [e3] at q; exact q.elim
        | exc c xs ρ' => rw [e3] at q; exact q.elim
        | ok c =>
          rw [e3] at q
          obtain ⟨dc, ρ4⟩ := c
          cases dc with
          | bool bb =>
            intro H4 F4 s5 hF4
            cases bb with
            | false =>
              refine (if_neg Bool.false_ne_true).mpr ⟨F4, wipeE ρ4 vs, acc, walt (s5.le h1) hq3 lq3, fun a z => hF4 a (hF3 a (hF2 a z)), q⟩
            | true =>
              refine (if_pos rfl).mpr (he _ _ _ ⟨B, G, F4, ρ4, _, s5, ?_⟩)
              have q : Post P B G F1 pv M σ ts (.tm (.lst m)) W Q ((noX (fe ρ4) >>= fun y => if acc.length < sizeLine then compL b t fe vs (ds.drop (i + 1)) (acc ++ [y.1]) (wipeE y.2 vs) else .bad) >>= fun y => .ok (.list y.1, y.2)) := q
              cases e4 : fe ρ4 with
              | bad => rw [e4] at q; exact q.elim
              | exc c xs ρ' => rw [e4] at q; exact q.elim
              | ok y =>
                rw [e4] at q
                obtain ⟨dy, ρ5⟩ := y
                have q : Post P B G F1 pv M σ ts (.tm (.lst m)) W Q ((if acc.length < sizeLine then compL b t fe vs (ds.drop (i + 1)) (acc ++ [dy]) (wipeE ρ5 vs) else .bad) >>= fun y => .ok (.list y.1, y.2)) := q
                by_cases hz : acc.length < sizeLine
                · rw [if_pos hz] at q
                  intro v H5 F5 s6 _ hF5
                  have s6 : Stt P B G F5 pv Mt ρ5 σ3 ((m, dy, some v) :: (.lst m, .list acc, some (.ref D0)) :: (us ++ ts)) H5 := s6
                  obtain ⟨v', ev, SS, rm, _⟩ := s6.w.mem (m := .lst m) (d := .list acc) (v := some (.ref D0)) (List.mem_append_left _ (List.mem_cons_of_mem _ List.mem_cons_self)) (by simp)
                  cases ev
                  cases rm with
                  | @lst _ _ vacc _ _ eD rms =>
                    refine ⟨vacc, eD, by rw [rms.length]; exact hz, F5, wipeE ρ5 vs, acc ++ [dy], ?_, fun a z => hF5 a (hF4 a (hF3 a (hF2 a z))), q⟩
                    have w7 : World P.toPar B G F5 (entsOf m [dy] [v] ++ (.lst m, .list acc, some (.ref D0)) :: ((us ++ ts) ++ slots Mt ρ5 σ3)) H5 := s6.w
                    have w8 := World.relist (ds' := acc ++ [dy]) (vs' := vacc ++ [v]) w7 eD fun S S0 rr r0 nd => by
                      have r1 : RMs P.toPar H5 F5 m [v] [dy] S0 := REs.rms hm rfl r0
                      refine ⟨S ++ S0, rr.append r1, ?_, fun b hb => ?_⟩
                      · exact List.perm_append_comm.nodup_iff.mp nd
                      · exact (List.mem_append.mp hb).elim (fun z => List.mem_append_right _ z) fun z => List.mem_append_left _ z
                    have s8 : Stt P B G F5 pv Mt ρ5 σ3 ((.lst m, .list (acc ++ [dy]), some (.ref D0)) :: (us ++ ts)) (upd H5 D0 (.lst (vacc ++ [v]))) := s6.to w8
                    exact walt (s8.le h1) hq3 lq3
                · rw [if_neg hz] at q; exact q.elim
          | none => exact q.elim
          | int i => exact q.elim
          | str i => exact q.elim
          | list i => exact q.elim
          | tuple i => exact q.elim
          | dict i => exact q.elim
    · have e : i = ds.length := by omega
      subst e
      refine .inl ⟨wi.2 (Nat.le_refl _), ?_⟩
      rw [List.drop_length] at q
      have q : ∀ v H' F', Stt P B G F' pv M ρ2 σ ((.lst m, .list acc, some v) :: ts) H' → True → (∀ a, F1 a → F' a) → Q v H' := q
      refine q (.ref D0) H2 F2 ?_ trivial hF2
      have s9 : Stt P B G F2 pv M ρ2 (wipe σ vs) ((.lst m, .list acc, some (.ref D0)) :: ts) H2 := s2.dropM
      exact s9.alt (vs := vs) hd hp rfl (by rw [wipe_length]) (fun i hi => rfl) fun i hi => (wipe_out hi).symm
end
end Z

set_option maxRecDepth 100000
set_option maxHeartbeats 1000000
namespace Z
open PySem PySem.Spec PyProof.Rows L2

section
variable {X : Cx} {P : Par2} {pv : List (Nat × V)} {M Mt Mn Ml : List Md} {W : WX} {J : Sg} {k : Nat} {ch : List Nat}
theorem _root_.L2.PTs.imp {X : Cx} {e : List Expr} {t t' : TT} (h : PTs X e t) (k : ∀ σ H Q, t' σ H Q → t σ H Q) : PTs X e t' := ⟨fun pins s σ H Q I q => h.run pins s σ H Q I (k _ _ _ q)⟩
theorem ts_nil : PTs X [] (tT P pv M W yesF) := pts_nil.imp fun σ H Q ⟨B, G, F, ρ, ts, s, k⟩ => k H F s fun _ z => z
theorem ts_one {c : Expr} {f : Fn'} (h : PT X c (tT P pv M W f)) : PTs X [c] (tT P pv M W f) := pts_one h
section
variable {elt tg iter : Expr} {ifs : List Expr} {scope : Scope} {own : List (Str × Nat)} {pos : Pos} {fs : FnI} {g : TG} {b : Bd} {t fe : Fn'} {m : Md}
theorem TO.comp (C : CtxOk X P k) (hN : X.N.Nodup) (hi : PI X tg iter (tI P pv M W fs)) (ok : blkC X.N X.env.scope scope own = true)
    (hg : ∀ (s : Shared) (H : Hp) (c : Addr) (cl : List (Str × Addr)) (fp : List Addr), CtxOk (X.blk s H scope (compEnvC scope cl c X.env) fp) P k → TTg (X.blk s H scope (compEnvC scope cl c X.env) fp) P pv M Mt (own.map (·.2)) tg g b)
    (ht : ∀ (s : Shared) (H : Hp) (c : Addr) (cl : List (Str × Addr)) (fp : List Addr), CtxOk (X.blk s H scope (compEnvC scope cl c X.env) fp) P k → PTs (X.blk s H scope (compEnvC scope cl c X.env) fp) ifs (tT P pv Mt W0 t))
    (he : ∀ (s : Shared) (H : Hp) (c : Addr) (cl : List (Str × Addr)) (fp : List Addr), CtxOk (X.blk s H scope (compEnvC scope cl c X.env) fp) P k → TO (X.blk s H scope (compEnvC scope cl c X.env) fp) P pv Mt W0 elt (.tm m) fe)
    (hm : m ≠ .dead := by decide) (h1 : leM Mt M = true := by rfl) (hd : (own.map (·.2)).all (fun i => decide (M[i]? = some .dead)) = true := by rfl) (hp : pv.all (fun p => decide (p.1 ∉ own.map (·.2))) = true := by rfl)
    (hs : ∀ x, foldedSetIterable iter X.env x = pure x := by intro _; rfl) : TO X P pv M W (.ListComp elt [⟨tg, iter, ifs, 0⟩] scope pos) (.tm (.lst m)) (compF fs b t fe (own.map (·.2))) :=
  ⟨(pe_lc C.hc hN hi (blkOk_by ok) (fun s H c cl fp => (hg s H c cl fp C.blk).pg) (fun s H c cl fp => ht s H c cl fp C.blk) (fun s H c cl fp => (he s H c cl fp C.blk).pe) hs).imp fun σ H Q h =>
    lc_post (hg X.s_0 X.H_0 0 [] [] C.blk).rd (fun _ _ _ q => q) (fun _ _ _ q => q) hm h1 hd hp h, fun _ z => nomatch z⟩
/-- name = [..] on one line -/
theorem st_setC {y : Str} {i : Nat} {py spos : Pos} (C : CtxOk X P k) (hN : X.N.Nodup) (hi : PI X tg iter (tI P J.pv M J.W fs)) (ok : blkC X.N X.env.scope scope own = true)
    (hg : ∀ (s : Shared) (H : Hp) (c : Addr) (cl : List (Str × Addr)) (fp : List Addr), CtxOk (X.blk s H scope (compEnvC scope cl c X.env) fp) P k → TTg (X.blk s H scope (compEnvC scope cl c X.env) fp) P J.pv M Mt (own.map (·.2)) tg g b)
    (ht : ∀ (s : Shared) (H : Hp) (c : Addr) (cl : List (Str × Addr)) (fp : List Addr), CtxOk (X.blk s H scope (compEnvC scope cl c X.env) fp) P k → PTs (X.blk s H scope (compEnvC scope cl c X.env) fp) ifs (tT P J.pv Mt W0 t))
    (he : ∀ (s : Shared) (H : Hp) (c : Addr) (cl : List (Str × Addr)) (fp : List Addr), CtxOk (X.blk s H scope (compEnvC scope cl c X.env) fp) P k → TO (X.blk s H scope (compEnvC scope cl c X.env) fp) P J.pv Mt W0 elt (.tm m) fe)
    (hy : X.N[i]? = some y := by rfl) (hyl : X.env.scope.names.lookup y = some .local := by rfl) (hl : i < M.length := by decide) (hpi : J.pv.all (fun p => decide (p.1 ≠ i)) = true := by rfl) (hx : leM M J.Mx = true := by rfl)
    (hsw : swapsWith (.ListComp elt [⟨tg, iter, ifs, 0⟩] scope pos) (some (.Name y py)) spos.line X.env = pure true := by exact sw_true rfl rfl rfl rfl)
    (hm : m ≠ .dead := by decide) (h1 : leM Mt M = true := by rfl) (hd : (own.map (·.2)).all (fun i => decide (M[i]? = some .dead)) = true := by rfl) (hp : J.pv.all (fun p => decide (p.1 ∉ own.map (·.2))) = true := by rfl)
    (hs : ∀ x, foldedSetIterable iter X.env x = pure x := by intro _; rfl) : PS X (.Assign [.Name y py] (.ListComp elt [⟨tg, iter, ifs, 0⟩] scope pos) spos) (tS P J M (M.set i (.lst m)) (setF i (compF fs b t fe (own.map (·.2))))) :=
  (ps_setLc C.hc hN hy hyl hsw hi (blkOk_by ok) (fun s H c cl fp => (hg s H c cl fp C.blk).pg) (fun s H c cl fp => ht s H c cl fp C.blk) (fun s H c cl fp => (he s H c cl fp C.blk).pe) hs).imp fun E σ H q =>
    lc_post (W := J.W) (hg X.s_0 X.H_0 0 [] [] C.blk).rd (fun _ _ _ q => q) (fun _ _ _ q => q) hm h1 hd hp (expr_in (o := .tm (.lst m)) hx q fun B G F F0 ρ ρ' ts d v H' _ s _ k =>
      k (σ.set i (some v)) H' F (s.store hl fun p hpp => of_decide_eq_true (List.all_eq_true.mp hpi p hpp)) fun _ z => z)
end
/-! ### a statement's begin -/
theorem st_pre {st : Stmt} {M1 : List Md} {f : FnS} (h : PS X st (tS P J M1 Mn f)) (hl : leM M M1 = true := by rfl) : PS X st (tS P J M Mn f) :=
  h.imp fun E σ H ⟨B, G, F, ρ, ts, s, k⟩ => ⟨B, G, F, ρ, ts, s.le hl, k⟩
theorem ss_pre {st : List Stmt} {M1 : List Md} {f : FnS} (h : PSs X st (tS P J M1 Mn f)) (hl : leM M M1 = true := by rfl) : PSs X st (tS P J M Mn f) :=
  h.imp fun E σ H ⟨B, G, F, ρ, ts, s, k⟩ => ⟨B, G, F, ρ, ts, s.le hl, k⟩
end
end Z

set_option maxRecDepth 100000
set_option maxHeartbeats 1000000
namespace Z
open PySem PySem.Spec PyProof.Rows L2

section
variable {X : Cx} {P : Par2} {pv : List (Nat × V)} {M Mt Mn Ml : List Md} {W : WX} {J : Sg} {k : Nat} {ch : List Nat}
/-! ### methods of an owned list -/
/-- told of a slot's list, of frozen arguments -/
def LM (X : Cx) (P : Par) (id : String) (m mr : Md) (g : List D → List D → Option (D × List D)) : Prop :=
  MtR X id fun x vs H Q => ∃ B G F es a l l' z ds, x = .ref a ∧ World P B G F ((.lst m, .list l, some (.ref a)) :: es) H ∧ RFs P H F vs ds ∧ g l ds = some (z, l') ∧
    ∀ v H', World P B G F ((mr, z, some v) :: (.lst m, .list l', some (.ref a)) :: es) H' → Q v H'
theorem World.lstAt {P : Par} {B H : Hp} {G F : Addr → Prop} {es : List Ent} {m : Md} {l : List D} {a : Addr} (w : World P B G F ((.lst m, .list l, some (.ref a)) :: es) H) : ∃ vs, H a = some (.lst vs) ∧ ∃ S, RMs P H F m vs l S := by
  obtain ⟨v', e, S, r, _⟩ := w.mem (m := .lst m) (d := .list l) (v := some (.ref a)) List.mem_cons_self (by simp)
  cases e
  cases r with
  | @lst _ _ vs _ _ ea rs => exact ⟨vs, ea, _, rs⟩
/-- frozen items go in -/
theorem World.relist0 {P : Par} {B H : Hp} {G F : Addr → Prop} {es : List Ent} {l l' : List D} {vs vs' : List V} {a : Addr} (w : World P B G F ((.lst .frz, .list l, some (.ref a)) :: es) H) (e : H a = some (.lst vs)) (hr : RFs P H F vs l → RFs P H F vs' l') :
    World P B G F ((.lst .frz, .list l', some (.ref a)) :: es) (upd H a (.lst vs')) :=
  World.relist (d0 := []) (v0 := []) (by simpa [entsOf] using w) e fun S S0 r r0 nd => by
    obtain ⟨r1, rfl⟩ := r.of_frz
    exact ⟨[], RMs.frz (hr r1), List.nodup_nil, fun b hb => by simp at hb⟩
def appendG : List D → List D → Option (D × List D) := fun l ds => match ds with
  | [d] => if l.length < sizeLine then some (.none, l ++ [d]) else none
  | _ => none
theorem lm_append : LM X P.toPar "list.append" .frz .frz appendG := by
  intro pins s σ H x vs v us Q I rx rv ⟨B, G, F, es, a, l, l', z, ds, ex, w, r, hg, k⟩
  subst ex
  obtain ⟨xs, e, S, rs⟩ := w.lstAt
  cases r with
  | nil => simp [appendG] at hg
  | cons r1 rr =>
    cases rr with
    | cons => simp [appendG] at hg
    | nil =>
      simp only [appendG] at hg
      split at hg
      · rename_i hz
        cases hg
        exact mt_append pins s σ H _ _ v us Q I rx rv ⟨a, xs, _, rfl, rfl, e, by rw [rs.length]; exact hz, k _ _ ((w.relist0 e fun q => q.append (.cons r1 .nil)).push .non)⟩
      · cases hg
def extendG : List D → List D → Option (D × List D) := fun l ds => match ds with
  | [.list ys] => if l.length + ys.length ≤ sizeLine then some (.none, l ++ ys) else none
  | _ => none
theorem lm_extend : LM X P.toPar "list.extend" .frz .frz extendG := by
  intro pins s σ H x vs v us Q I rx rv ⟨B, G, F, es, a, l, l', z, ds, ex, w, r, hg, k⟩
  subst ex
  obtain ⟨xs, e, S, rs⟩ := w.lstAt
  cases r with
  | nil => simp [extendG] at hg
  | cons r1 rr =>
    cases rr with
    | cons => cases r1 <;> simp [extendG] at hg
    | nil =>
      cases r1 with
      | @lst b zs ys _ eb ry =>
        simp only [extendG] at hg
        split at hg
        · rename_i hz
          cases hg
          exact mt_extend pins s σ H _ _ v us Q I rx rv ⟨a, b, xs, zs, rfl, rfl, e, eb, by rw [rs.length, ry.length]; exact hz, k _ _ ((w.relist0 e fun q => q.append ry).push .non)⟩
        · cases hg
      | _ => simp [extendG] at hg
def popG : List D → List D → Option (D × List D) := fun l ds => match ds with
  | [] => (l[l.length - 1]?).map fun d => (d, l.dropLast)
  | _ => none
theorem RMs.get {P : Par} {H : Hp} {F : Addr → Prop} {m : Md} : ∀ {vs : List V} {ds : List D} {S : List Addr} {i : Nat} {d : D}, RMs P H F m vs ds S → ds[i]? = some d → ∃ v, vs[i]? = some v ∧ ∃ S1 S2, RM P H F m v d S1 ∧ RMs P H F m (vs.eraseIdx i) (ds.eraseIdx i) S2 ∧ (S1 ++ S2).Perm S
  | _, _, _, _, _, .nil, h => by simp at h
  | _, _, _, 0, _, .cons a r, h => by
    simp only [List.getElem?_cons_zero, Option.some.injEq] at h
    subst h
    exact ⟨_, rfl, _, _, a, r, .refl _⟩
  | _, _, _, i + 1, _, .cons (S := T) a r, h => by
    obtain ⟨v, e, S1, S2, q1, q2, p⟩ := RMs.get (i := i) r (by simpa using h)
    refine ⟨v, by simpa using e, S1, _, q1, .cons a q2, ?_⟩
    exact (List.perm_append_comm_assoc _ _ _).trans (p.append_left _)
/-- an item is taken out -/
theorem World.pop {P : Par} {B H : Hp} {G F : Addr → Prop} {es : List Ent} {m : Md} {l : List D} {vs : List V} {a : Addr} {i : Nat} {d : D} (w : World P B G F ((.lst m, .list l, some (.ref a)) :: es) H) (e : H a = some (.lst vs)) (hd : l[i]? = some d) :
    ∃ v, vs[i]? = some v ∧ World P B G F ((m, d, some v) :: (.lst m, .list (l.eraseIdx i), some (.ref a)) :: es) (upd H a (.lst (vs.eraseIdx i))) := by
  obtain ⟨S, h, nd, k⟩ := w.ents
  cases h with
  | cons x r =>
    rename_i Sa Sr
    cases x with
    | held x =>
      cases x with
      | lst ea rs =>
        rename_i vs2 S1
        rw [e] at ea; cases ea
        obtain ⟨v, ev, T1, T2, q1, q2, p⟩ := rs.get hd
        have ka := k a (List.mem_append_left _ List.mem_cons_self)
        have st : Stay F H (upd H a (.lst (vs.eraseIdx i))) := Stay.write e trivial ka.1
        have nd2 := List.nodup_append.mp nd
        have na1 : a ∉ S1 := (List.nodup_cons.mp nd2.1).1
        have nar : a ∉ Sr := fun z => nd2.2.2 a List.mem_cons_self a z rfl
        have pm : (T1 ++ ((a :: T2) ++ Sr)).Perm ((a :: S1) ++ Sr) := by
          rw [← List.append_assoc]
          refine List.Perm.append_right _ ?_
          exact List.perm_middle.trans (p.cons a)
        refine ⟨v, ev, ⟨T1 ++ ((a :: T2) ++ Sr), .cons (.held (q1.stay st (fun _ z => z) fun b hb => upd_ne fun z => na1 (by rw [← z]; exact p.subset (List.mem_append_left _ hb)))) (.cons (.held (.lst upd_same (q2.stay st (fun _ z => z) fun b hb => upd_ne fun z => na1 (by rw [← z]; exact p.subset (List.mem_append_right _ hb))))) (r.stay st (fun _ z => z) fun b hb => upd_ne fun z => nar (z ▸ hb))), pm.nodup_iff.mpr nd, fun b hb => k b (pm.subset hb)⟩, w.fG, fun b z => ?_, w.gB, fun b o e2 => ?_⟩
        · obtain ⟨o, e2⟩ := w.fH b z
          exact ⟨o, st b o e2 (.inl z)⟩
        · rw [upd_ne (fun z => by subst z; rw [ka.2.2] at e2; cases e2)]
          exact w.base b o e2
theorem lm_pop {m : Md} : LM X P.toPar "list.pop" m m popG := by
  intro pins s σ H x vs v us Q I rx rv ⟨B, G, F, es, a, l, l', z, ds, ex, w, r, hg, k⟩
  subst ex
  obtain ⟨xs, e, S, rs⟩ := w.lstAt
  cases r with
  | cons => simp [popG] at hg
  | nil =>
    obtain ⟨d, e2, e3⟩ := Option.map_eq_some_iff.mp hg
    cases e3
    obtain ⟨y, ey, w2⟩ := w.pop e e2
    have hl := rs.length
    have e4 : ∀ {α : Type} (l : List α), l.eraseIdx (l.length - 1) = l.dropLast := fun l => PyProof.Rows.Copied.eraseIdx_last l
    rw [e4 l, ← hl, e4 xs] at w2
    rw [← hl] at ey
    exact mt_pop pins s σ H _ _ v us Q I rx rv ⟨a, xs, y, rfl, rfl, e, ey, k _ _ w2⟩
noncomputable def popAtG : List D → List D → Option (D × List D) := fun l ds => match ds with
  | [.int i] => if cb (-(2 ^ 63) ≤ i ∧ i < 2 ^ 63) = true then (seqIndex? i l.length).bind fun j => (l[j]?).map fun d => (d, l.eraseIdx j) else none
  | _ => none
theorem lm_popAt {m : Md} : LM X P.toPar "list.pop" m m popAtG := by
  intro pins s σ H x vs v us Q I rx rv ⟨B, G, F, es, a, l, l', z, ds, ex, w, r, hg, k⟩
  subst ex
  obtain ⟨xs, e, S, rs⟩ := w.lstAt
  cases r with
  | nil => simp [popAtG] at hg
  | cons r1 rr =>
    cases rr with
    | cons => cases r1 <;> simp [popAtG] at hg
    | nil =>
      cases r1 with
      | int i =>
        simp only [popAtG] at hg
        split at hg
        · rename_i hi
          rw [cb_eq] at hi
          obtain ⟨j, e5, e6⟩ := Option.bind_eq_some_iff.mp hg
          obtain ⟨d, e2, e3⟩ := Option.map_eq_some_iff.mp e6
          cases e3
          obtain ⟨y, ey, w2⟩ := w.pop e e2
          exact mt_popAt pins s σ H _ _ v us Q I rx rv ⟨a, xs, i, j, y, rfl, rfl, e, hi.1, hi.2, by rw [rs.length]; exact e5, ey, k _ _ w2⟩
        · cases hg
      | _ => simp [popAtG] at hg
noncomputable def insertG : List D → List D → Option (D × List D) := fun l ds => match ds with
  | [.int i, d] => if cb (l.length < sizeLine ∧ 0 ≤ i ∧ i < 2 ^ 63) = true then some (.none, l.take i.toNat ++ [d] ++ l.drop i.toNat) else none
  | _ => none
theorem lm_insert : LM X P.toPar "list.insert" .frz .frz insertG := by
  intro pins s σ H x vs v us Q I rx rv ⟨B, G, F, es, a, l, l', z, ds, ex, w, r, hg, k⟩
  subst ex
  obtain ⟨xs, e, S, rs⟩ := w.lstAt
  cases r with
  | nil => simp [insertG] at hg
  | cons r1 rr =>
    cases rr with
    | nil => cases r1 <;> simp [insertG] at hg
    | cons r2 rr =>
      cases rr with
      | cons => cases r1 <;> simp [insertG] at hg
      | nil =>
        cases r1 with
        | int i =>
          simp only [insertG] at hg
          split at hg
          · rename_i hi
            rw [cb_eq] at hi
            cases hg
            exact mt_insert pins s σ H _ _ v us Q I rx rv ⟨a, xs, i, _, rfl, rfl, e, by rw [rs.length]; exact hi.1, hi.2.1, hi.2.2, k _ _ ((w.relist0 e fun q => ((q.take _).append (.cons r2 .nil)).append (q.drop _)).push .non)⟩
          · cases hg
        | _ => simp [insertG] at hg
/-- on a slot's list -/
def methF (i : Nat) (g : List D → List D → Option (D × List D)) (fa : FnA) : Fn' := fun ρ => fa ρ >>= fun x => match x.2.getD i .none with
  | .list l => (match g l x.1 with
    | some (z, l') => .ok (z, x.2.set i (.list l'))
    | none => .bad)
  | _ => .bad
theorem meth_core {os : List Om} {fa : FnA} {i : Nat} {m mr : Md} {g : List D → List D → Option (D × List D)} {σ : L2.St} {H : Hp} {Q : VK} {r : V → List V → Hp → VK → Prop} {es : List Expr} (hK : X.K = P.K) (ha : TAs X P pv M W es os fa) (fl : ∀ o ∈ os, o = .tm .frz)
    (hr : r = fun x vs H Q => ∃ B G F es a l l' z ds, x = .ref a ∧ World P.toPar B G F ((.lst m, .list l, some (.ref a)) :: es) H ∧ RFs P.toPar H F vs ds ∧ g l ds = some (z, l') ∧
    ∀ v H', World P.toPar B G F ((mr, z, some v) :: (.lst m, .list l', some (.ref a)) :: es) H' → Q v H')
    (hm : M[i]? = some (.lst m)) (h : tO P pv M (.tm mr) W (methF i g fa) σ H Q) : tBM X.K "list" r (tVar i) (tAs P pv M os W fa) σ H Q := by
  obtain ⟨B, G, F, ρ, ts, s, kk⟩ := h
  obtain ⟨v, e1, q⟩ := s.slot hm (by simp)
  refine ⟨v, e1, ?_, ?_⟩
  · obtain ⟨v', e2, S, rm, _⟩ := s.w.mem q (by simp)
    cases e2
    revert rm
    generalize ρ.getD i .none = d
    intro rm
    cases rm with
    | lst ea rs => exact .inl ⟨rfl, _, SqL.of ea⟩
  · refine ⟨B, G, F, ρ, ts, s, ?_⟩
    unfold methF at kk
    cases e3 : fa ρ with
    | bad => rw [e3] at kk; exact kk
    | exc c xs ρ' => rw [e3] at kk; exact kk
    | ok x =>
      obtain ⟨ds, ρ1⟩ := x
      rw [e3] at kk
      intro vs H' F' s' hh hF
      have rf := ha.frozen fl e3 s' hh
      have kk : Post P B G F pv M σ ts (.tm mr) W Q (match ρ1.getD i .none with
        | .list l => (match g l ds with
          | some (z, l') => .ok (z, ρ1.set i (.list l'))
          | none => .bad)
        | _ => .bad) := kk
      have w := take_slot s'.w hm s'.lr s'.ls
      rw [getD_of e1] at w
      revert kk w
      generalize ed : ρ1.getD i .none = d
      cases d with
      | list l =>
        intro kk w
        obtain ⟨v', e2, S, rm, _⟩ := w.mem (m := .lst m) (d := .list l) (v := some v) List.mem_cons_self (by simp)
        cases e2
        have : ∃ a, v = .ref a := by
          cases rm with
          | lst ea rs => exact ⟨_, rfl⟩
        obtain ⟨a, rfl⟩ := this
        have kk : Post P B G F pv M σ ts (.tm mr) W Q (match g l ds with
          | some (z, l') => .ok (z, ρ1.set i (.list l'))
          | none => .bad) := kk
        cases e4 : g l ds with
        | none => rw [e4] at kk; exact kk.elim
        | some y =>
          obtain ⟨z, l'⟩ := y
          rw [e4] at kk
          subst hr
          refine ⟨B, G, F', _, a, l, l', z, ds, rfl, w, rf, e4, fun v2 H2 w2 => kk v2 H2 F' ?_ trivial hF⟩
          have w3 : World P.toPar B G F' ((.lst m, .list l', some (.ref a)) :: ((mr, z, some v2) :: (entsO os ds vs ++ ts) ++ slots (M.set i .dead) ρ1 σ)) H2 := w2.perm (.swap _ _ _)
          have w4 : World P.toPar B G F' ((mr, z, some v2) :: (entsO os ds vs ++ ts) ++ slots M (ρ1.set i (.list l')) σ) H2 := put_slot (by rw [getD_of e1]; exact w3) hm s'.lr s'.ls
          have s4 : Stt P B G F' pv M (ρ1.set i (.list l')) σ ((mr, z, some v2) :: (entsO os ds vs ++ ts)) H2 := ⟨w4, by simpa using s'.lr, s'.ls, s'.pv⟩
          exact s4.dropM
      | _ => exact fun kk => kk.elim
theorem TO.meth {o e : Expr} {es : List Expr} {os : List Om} {fa : FnA} {i : Nat} {m mr : Md} {id : String} {name : Str} {apos cpos : Pos} {g : List D → List D → Option (D × List D)} (C : CtxOk X P k) (lm : LM X P.toPar id m mr g) (slot : Slot "list" name id) (hty : typeOf (.builtin id) = pure (.type "method_descriptor"))
    (ho : PE X o (tVar i)) (ha : TAs X P pv M W (e :: es) os fa) (fl : ∀ o ∈ os, o = .tm .frz) (hm : M[i]? = some (.lst m) := by rfl)
    (hbase : attributeBase o name X.env (eval o X.env) = eval o X.env := by rfl)
    (hfew : ((backTo cpos (starEach (e :: es) X.env)).all (fun x => !x.1) && (backToKw cpos (keywordEach [] X.env)).all (fun x => x.1.isSome)
      && decide ((e :: es).length + ([] : List Keyword).length + (if ([] : List Keyword).isEmpty then 0 else 1) < 30)) = true := by rfl)
    (hline : (apos.endLine == cpos.line) = true := by rfl) (hs : starEach (e :: es) X.env = (false, eval e X.env) :: starEach es X.env := by rfl) (hplain : (backTo cpos (starEach es X.env)).any (·.1) = false := by rfl) :
    TO X P pv M W (.Call (.Attribute o name apos) (e :: es) [] cpos) (.tm mr) (methF i g fa) :=
  ⟨(pe_bm PySem.F.plainAttrs_list slot hty lm ho ha.pa hbase hfew hline hs hplain).imp fun σ H Q h => meth_core C.hK ha fl rfl hm h, fun _ z => nomatch z⟩
theorem TO.meth0 {o : Expr} {i : Nat} {m mr : Md} {id : String} {name : Str} {apos cpos : Pos} {g : List D → List D → Option (D × List D)} (C : CtxOk X P k) (lm : LM X P.toPar id m mr g) (slot : Slot "list" name id) (hty : typeOf (.builtin id) = pure (.type "method_descriptor"))
    (ho : PE X o (tVar i)) (hm : M[i]? = some (.lst m) := by rfl)
    (hbase : attributeBase o name X.env (eval o X.env) = eval o X.env := by rfl) (hline : (apos.endLine == cpos.line) = true := by rfl) :
    TO X P pv M W (.Call (.Attribute o name apos) [] [] cpos) (.tm mr) (methF i g nilA) :=
  ⟨(pe_bm0 PySem.F.plainAttrs_list slot hty lm ho hbase hline).imp fun σ H Q h => by
    have q := meth_core (r := fun x vs H Q => _) C.hK (TAs.nil (X := X) (P := P) (pv := pv) (M := M) (W := W)) (fun _ z => by simp at z) rfl hm h
    obtain ⟨v, e1, ty, B, G, F, ρ, ts, s, kk⟩ := q
    exact ⟨v, e1, ty, kk [] H F s .nil fun _ z => z⟩, fun _ z => nomatch z⟩
end
end Z

set_option maxRecDepth 100000
set_option maxHeartbeats 1000000
namespace Z
open PySem PySem.Spec PyProof.Rows L2

section
variable {X : Cx} {P : Par2} {pv : List (Nat × V)} {M Mt Mn Ml : List Md} {W : WX} {J : Sg} {k : Nat} {ch : List Nat}
/-! ### lists made, owned -/
def addL : D → D → Option D
  | .list xs, .list ys => if xs.length + ys.length ≤ sizeLine then some (.list (xs ++ ys)) else none
  | _, _ => none
theorem addVL : OpR X (binaryOp .Add) (rV P.toPar addL (.lst .frz)) := by
  intro pins s σ H v1 v2 u1 u2 Q I r1 r2 h
  obtain ⟨B, G, F, es, x, y, z, w, h1, h2, hg, k⟩ := h
  cases h1 <;> cases h2 <;> simp only [addL, reduceCtorEq] at hg
  split at hg
  · rename_i a vs ds s1 q1 b ws es' s2 q2 hl
    cases hg
    exact op_cat pins s σ H _ _ _ _ Q I r1 r2 ⟨_, _, _, _, rfl, rfl, s1, s2, by rw [q1.length, q2.length]; exact hl, fun p hp => k _ _ _ (w.lst0 (q1.append q2) hp) fun _ z => z⟩
  · cases hg
noncomputable def mulL : D → D → Option D
  | .list xs, .int k => if okRep xs.length k = true then some (.list (List.replicate k.toNat xs).flatten) else none
  | _, _ => none
theorem mulVL : OpR X (binaryOp .Mult) (rV P.toPar mulL (.lst .frz)) := by
  intro pins s σ H v1 v2 u1 u2 Q I r1 r2 h
  obtain ⟨B, G, F, es, x, y, z, w, h1, h2, hg, k⟩ := h
  cases h1 <;> cases h2 <;> simp only [mulL, reduceCtorEq] at hg
  split at hg
  · rename_i a vs ds s1 q1 i hc
    cases hg
    have hc' := hc
    simp only [okRep, Bool.and_eq_true, decide_eq_true_eq, cb_eq] at hc'
    exact op_rep pins s σ H _ _ _ _ Q I r1 r2 ⟨_, _, _, rfl, rfl, s1, hc'.1.1, hc'.1.2, by rw [q1.length]; exact hc'.2, fun p hp => k _ _ _ (w.lst0 (q1.replicate i.toNat) hp) fun _ z => z⟩
  · cases hg

/-! ### found[j] = e -/
def setItK (i : Nat) (d : D) (ρ : Env') : D → D → R Fl
  | .list l, .int j => (match ixN l.length j with
    | some n => .ok (.nx (ρ.set i (.list (l.set n d))))
    | none => .bad)
  | _, _ => .bad
def setItF (i : Nat) (fe fj : Fn') : FnS := fun ρ => fe ρ >>= fun x => fj x.2 >>= fun y => setItK i x.1 y.2 (y.2.getD i .none) y.1
theorem st_setIt {o ix e : Expr} {i : Nat} {fe fj : Fn'} {p2 pos : Pos} (he : TO X P J.pv M J.W e (.tm .frz) fe) (ho : PE X o (tVar i)) (hj : TO X P J.pv M J.W ix (.tm .frz) fj) (hm : M[i]? = some (.lst .frz) := by rfl) (hx : leM M J.Mx = true := by rfl)
    (ha : ∀ v, assign (.Subscript o ix p2) X.env v = (do
      let ov ← holding [v] (eval o X.env)
      let iv ← holding [v, ov] (eval ix X.env)
      standAt p2
      holding [v, ov, iv] (setItem ov iv v)
      release [v, ov, iv] []) := by intro _; rfl)
    (hs : swapsWithSole [.Subscript o ix p2] e pos.line X.env = pure false := by rfl) (hw : swappedStores [.Subscript o ix p2] e X.env = pure none := by rfl) (h1 : (assignEach [.Subscript o ix p2] X.env).map (·.2) = [assign (.Subscript o ix p2) X.env] := by rfl) :
    PS X (.Assign [.Subscript o ix p2] e pos) (tS P J M M (setItF i fe fj)) :=
  (ps_asg he.pe (pg_sub ho hj.pe set_list ha) hs hw h1).imp fun E σ H ⟨B, G, F, ρ, ts, s, kk⟩ => by
    have kk : PostS P J B G F ts M E (fe ρ >>= fun x => fj x.2 >>= fun y => setItK i x.1 y.2 (y.2.getD i .none) y.1) := kk
    refine ⟨B, G, F, ρ, ts, s, ?_⟩
    cases e1 : fe ρ with
    | bad => rw [e1] at kk; exact kk.elim
    | exc c xs ρ' =>
      rw [e1] at kk
      exact fun cls dx H' F' s' hx' hF' => kk cls dx σ H' F' (s'.le hx) hx' hF'
    | ok x =>
      obtain ⟨d, ρ1⟩ := x
      rw [e1] at kk
      intro v1 H1 F1 s1 _ hF1
      obtain ⟨va, ea, q⟩ := s1.slot hm (by simp)
      refine ⟨va, ea, B, G, F1, ρ1, _, s1, ?_⟩
      have kk : PostS P J B G F ts M E (fj ρ1 >>= fun y => setItK i d y.2 (y.2.getD i .none) y.1) := kk
      cases e2 : fj ρ1 with
      | bad => rw [e2] at kk; exact kk.elim
      | exc c xs ρ' =>
        rw [e2] at kk
        exact fun cls dx H' F' s' hx' hF' => kk cls dx σ H' F' (s'.dropL.le hx) hx' fun a z => hF' a (hF1 a z)
      | ok y =>
        obtain ⟨dj, ρ2⟩ := y
        rw [e2] at kk
        intro v2 H2 F2 s2 _ hF2
        have s2 : Stt P B G F2 J.pv M ρ2 σ ((.frz, dj, some v2) :: (.frz, d, some v1) :: ts) H2 := s2
        have w := take_slot s2.w hm s2.lr s2.ls
        rw [getD_of ea] at w
        have kk : PostS P J B G F ts M E (setItK i d ρ2 (ρ2.getD i .none) dj) := kk
        revert kk w
        generalize ρ2.getD i .none = dl
        intro w kk
        obtain ⟨v', e3, S, rm, _⟩ := w.mem (m := .lst .frz) (d := dl) (v := some va) List.mem_cons_self (by simp)
        cases e3
        cases rm with
        | @lst _ a vs l _ el rs =>
          cases dj with
          | int j =>
            have r2 := s2.w.rf_frz (d := .int j) (v := v2) List.mem_cons_self
            cases r2
            have kk : PostS P J B G F ts M E (match ixN l.length j with
              | some n => .ok (.nx (ρ2.set i (.list (l.set n d))))
              | none => .bad) := kk
            cases e4 : ixN l.length j with
            | none => rw [e4] at kk; exact kk.elim
            | some n =>
              rw [e4] at kk
              refine ⟨a, vs, j, n, rfl, rfl, el, by rw [rs.length]; exact e4, ?_⟩
              have r1 := s2.w.rf_frz (d := d) (v := v1) (List.mem_cons_of_mem _ List.mem_cons_self)
              have w2 := w.relist0 (vs' := vs.set n v1) (l' := l.set n d) el fun q => q.set r1 n
              have w4 := put_slot (d := .list (l.set n d)) (by rw [getD_of ea]; exact w2) hm s2.lr s2.ls
              have s4 : Stt P B G F2 J.pv M (ρ2.set i (.list (l.set n d))) σ ((.frz, .int j, some (.int j)) :: (.frz, d, some v1) :: ts) _ := ⟨w4, by simpa using s2.lr, s2.ls, s2.pv⟩
              exact kk σ _ F2 s4.drop1.drop1 fun b z => hF2 b (hF1 b z)
          | _ => exact kk.elim

/-! ### a, b = x, y -/
theorem args_in {os : List Om} {fa : FnA} {kf : List D → Env' → R Fl} (hx : leM M J.Mx = true) {E : Ends} {σ : L2.St} {H : Hp} {Q : List V → Hp → Prop} (h : tS P J M Mn (fun ρ => fa ρ >>= fun x => kf x.1 x.2) E σ H)
    (hq : ∀ (B : Hp) (G F F0 : Addr → Prop) (ρ ρ' : Env') (ts : List Ent) (ds : List D) (vs : List V) (H' : Hp), fa ρ = .ok (ds, ρ') → Stt P B G F J.pv M ρ' σ (entsO os ds vs ++ ts) H' → Holds σ os vs → PostS P J B G F ts Mn E (kf ds ρ') → Q vs H') : tAs P J.pv M os J.W fa σ H Q := by
  obtain ⟨B, G, F, ρ, ts, s, k⟩ := h
  refine ⟨B, G, F, ρ, ts, s, ?_⟩
  have k : PostS P J B G F ts Mn E (fa ρ >>= fun x => kf x.1 x.2) := k
  cases e : fa ρ with
  | bad => rw [e] at k; exact k
  | exc c xs ρ' =>
    rw [e] at k
    intro cls dx H' F' s' hx' hF'
    exact k cls dx σ H' F' (s'.le hx) hx' hF'
  | ok x =>
    obtain ⟨ds, ρ'⟩ := x
    rw [e] at k
    exact fun vs H' F' s' hh hF' => hq B G F' F ρ ρ' ts ds vs H' e s' hh (PostS.mono hF' k)
def parK : List Nat → List D → Env' → R Fl
  | [i, j], [d, e], ρ => .ok (.nx ((ρ.set i d).set j e))
  | [i, j, l], [d, e, f], ρ => .ok (.nx (((ρ.set i d).set j e).set l f))
  | _, _, _ => .bad
def parF (is : List Nat) (fa : FnA) : FnS := fun ρ => fa ρ >>= fun x => parK is x.1 x.2
theorem st_par2 {i j : Nat} {x y : Str} {a b : Expr} {m n : Md} {fa : FnA} {px py pt : Pos} {kt k2 pt2 pos} (C : CtxOk X P k) (hN : X.N.Nodup) (ha : TAs X P J.pv M J.W [a, b] [.tm m, .tm n] fa) (hi : X.N[i]? = some x := by rfl) (hj : X.N[j]? = some y := by rfl) (hij : i ≠ j := by decide)
    (hli : i < M.length := by decide) (hlj : j < M.length := by decide) (hp : J.pv.all (fun p => decide (p.1 ≠ i) && decide (p.1 ≠ j)) = true := by rfl) (hx' : leM M J.Mx = true := by rfl)
    (hx : X.env.scope.names.lookup x = some .local := by rfl) (hy : X.env.scope.names.lookup y = some .local := by rfl)
    (hw : swappedStores [.Tuple [.Name x px, .Name y py] kt pt] (.Tuple [a, b] k2 pt2) X.env = pure (some [x, y]) := by rfl)
    (hs : swapsWithSole [.Tuple [.Name x px, .Name y py] kt pt] (.Tuple [a, b] k2 pt2) pos.line X.env = pure false := by rfl) :
    PS X (.Assign [.Tuple [.Name x px, .Name y py] kt pt] (.Tuple [a, b] k2 pt2) pos) (tS P J M ((M.set i m).set j n) (parF [i, j] fa)) :=
  (ps_par C.hc hN hi hj hij hx hy ha.pa hw hs).imp fun E σ H q => args_in (kf := parK [i, j]) hx' q fun B G F F0 ρ ρ' ts ds vs H' e s hh kk => by
    have hl := ha.len _ _ _ e
    have hl2 := hh.length
    match ds, vs, hl, hl2, e, s, hh, kk with
    | [d1, d2], [v1, v2], _, _, e, s, hh, kk =>
      have s : Stt P B G F J.pv M ρ' σ ((m, d1, some v1) :: (n, d2, some v2) :: ts) H' := s
      have hp' : ∀ p ∈ J.pv, p.1 ≠ i ∧ p.1 ≠ j := fun p hpp => by
        have := List.all_eq_true.mp hp p hpp
        simpa [Bool.and_eq_true] using this
      have s1 := s.store hli fun p hpp => (hp' p hpp).1
      have s2 := s1.store (i := j) (by simpa using hlj) fun p hpp => (hp' p hpp).2
      exact ⟨v1, v2, rfl, kk _ H' F s2 fun _ z => z⟩
theorem st_par3 {i j l : Nat} {x y z : Str} {a b c : Expr} {m n o : Md} {fa : FnA} {px py pz pt : Pos} {kt k2 pt2 pos} (C : CtxOk X P k) (hN : X.N.Nodup) (ha : TAs X P J.pv M J.W [a, b, c] [.tm m, .tm n, .tm o] fa) (hi : X.N[i]? = some x := by rfl) (hj : X.N[j]? = some y := by rfl) (hk : X.N[l]? = some z := by rfl) (hij : i ≠ j := by decide) (hil : i ≠ l := by decide) (hjl : j ≠ l := by decide)
    (hli : i < M.length := by decide) (hlj : j < M.length := by decide) (hll : l < M.length := by decide) (hp : J.pv.all (fun p => decide (p.1 ≠ i) && decide (p.1 ≠ j) && decide (p.1 ≠ l)) = true := by rfl) (hx' : leM M J.Mx = true := by rfl)
    (hx : X.env.scope.names.lookup x = some .local := by rfl) (hy : X.env.scope.names.lookup y = some .local := by rfl) (hz : X.env.scope.names.lookup z = some .local := by rfl)
    (hw : swappedStores [.Tuple [.Name x px, .Name y py, .Name z pz] kt pt] (.Tuple [a, b, c] k2 pt2) X.env = pure (some [x, y, z]) := by rfl)
    (hs : swapsWithSole [.Tuple [.Name x px, .Name y py, .Name z pz] kt pt] (.Tuple [a, b, c] k2 pt2) pos.line X.env = pure false := by rfl) :
    PS X (.Assign [.Tuple [.Name x px, .Name y py, .Name z pz] kt pt] (.Tuple [a, b, c] k2 pt2) pos) (tS P J M (((M.set i m).set j n).set l o) (parF [i, j, l] fa)) :=
  (ps_par3 C.hc hN hi hj hk hij hil hjl hx hy hz ha.pa hw hs).imp fun E σ H q => args_in (kf := parK [i, j, l]) hx' q fun B G F F0 ρ ρ' ts ds vs H' e s hh kk => by
    have hl := ha.len _ _ _ e
    have hl2 := hh.length
    match ds, vs, hl, hl2, e, s, hh, kk with
    | [d1, d2, d3], [v1, v2, v3], _, _, e, s, hh, kk =>
      have s : Stt P B G F J.pv M ρ' σ ((m, d1, some v1) :: (n, d2, some v2) :: (o, d3, some v3) :: ts) H' := s
      have hp' : ∀ p ∈ J.pv, (p.1 ≠ i ∧ p.1 ≠ j) ∧ p.1 ≠ l := fun p hpp => by
        have := List.all_eq_true.mp hp p hpp
        simpa [Bool.and_eq_true] using this
      have s1 := s.store hli fun p hpp => (hp' p hpp).1.1
      have s2 := s1.store (i := j) (by simpa using hlj) fun p hpp => (hp' p hpp).1.2
      have s3 := s2.store (i := l) (by simpa using hll) fun p hpp => (hp' p hpp).2
      exact ⟨v1, v2, v3, rfl, kk _ H' F s3 fun _ z => z⟩
end
end Z

set_option maxRecDepth 100000
set_option maxHeartbeats 1000000
namespace Z
open PySem PySem.Spec PyProof.Rows L2

/-! ### enumerate(tuple) -/
section
variable {prog : Program} {w : PySem.World} {A : Around} {E : Value → Shared → Prop} {s : Shared}
theorem draws_tup (hh : A.handled = none) (it l : Addr) (hne : l ≠ it) (items : Array Value) :
    Draws prog w A it [it, l] items.size (fun i v => items[i]? = some v) (fun i h => h.IsTupleIter it l i ∧ h.IsTuple l items) where
  live := fun _ _ st => by
    obtain ⟨⟨o, ho, _⟩, _⟩ := st
    exact ⟨o, ho⟩
  frame := fun _ _ _ st hk => ⟨st.1.at fun o e => hk it (by simp) o e, st.2.at fun o e => hk l (by simp) o e⟩
  item := fun i s Q E hi st hQ => RZ.nextOf_tuple_item st.1 st.2 (x := items[i]) (by simp [hi]) fun h' hit' hs' => hQ _ h' s.toks (by simp [hi]) ⟨hit', st.2.extBut hs'.extBut hne⟩ hs'
  done := fun s Q E st hE => RZ.nextOf_tuple_end hh st.1 st.2 (by simp) hE
theorem enum_newT (l : Addr) (items : Array Value) :
    Meets (Builtin.«enumerate.__new__» ⟨[.type "enumerate", .ref l], []⟩) (fun _ R s => s.heap.IsTuple l items ∧
      R (.ok (.ret (.ref (s.heap.push { cls := .type "tuple_iterator", data := .fields #[.ref l, .int 0 0] }).objs.size)))
        { s with heap := (s.heap.push { cls := .type "tuple_iterator", data := .fields #[.ref l, .int 0 0] }).push { cls := .type "enumerate", data := .fields #[.none, .bool false, .ref s.heap.objs.size, rawInt 0, .none, .none] } }) :=
  .of_wp fun prog w A R s h => by
    obtain ⟨hp, g, d, tk, os⟩ := s
    obtain ⟨hL, h⟩ := h
    have hsub := sub_enumerate
    wp_walk
    refine wpAny_stack_any fun st => wpAny_pure ?_
    split
    · rename_i c _ _ _ _ _
      cases (c == Value.type "enumerate")
      · wp_walk using wpAny_pyIter_tuple hL
        exact ⟨_, rfl, h⟩
      · wp_walk using wpAny_pyIter_tuple hL
        exact ⟨_, rfl, h⟩
    · wp_walk using wpAny_pyIter_tuple hL
      exact ⟨_, rfl, h⟩
theorem call_enumT {l : Addr} {items : Array Value} {Q : Value → Shared → Prop} (hL : s.heap.IsTuple l items)
    (h : ∀ h', IsEnum h' (s.heap.objs.size + 1) s.heap.objs.size 0 .none → h'.IsTupleIter s.heap.objs.size l 0 → h'.objs.size = s.heap.objs.size + 2 →
      (∀ b o, s.heap.get? b = some o → h'.get? b = some o) → Q (.ref (s.heap.objs.size + 1)) { s with heap := h' }) :
    wpAny (model prog w) A (call (.type "enumerate") [.ref l]) Q E s := by
  refine callType_new F.called_enumerate (by decide) (F.typeCall_enumerate_1 _) (F.newCall_enumerate_1 _) (fun obj => F.args_object_init_2 obj _) F.entry_enumerate_new (enum_newT l items) ⟨hL, ?_⟩
  have hz : (s.heap.push { cls := .type "tuple_iterator", data := .fields #[.ref l, .int 0 0] }).objs.size = s.heap.objs.size + 1 := Heap.size_push ..
  show _ ∧ _
  rw [hz]
  have he : IsEnum ((s.heap.push { cls := .type "tuple_iterator", data := .fields #[.ref l, .int 0 0] }).push
      { cls := .type "enumerate", data := .fields #[.none, .bool false, .ref s.heap.objs.size, rawInt 0, .none, .none] }) (s.heap.objs.size + 1) s.heap.objs.size 0 .none := by
    have := Heap.get?_push_size (s.heap.push { cls := .type "tuple_iterator", data := .fields #[.ref l, .int 0 0] })
      (o := { cls := .type "enumerate", data := .fields #[.none, .bool false, .ref s.heap.objs.size, rawInt 0, .none, .none] }) rfl
    rw [hz] at this
    exact this
  exact ⟨⟨_, he, rfl⟩, h _ he ⟨_, Heap.get?_push_of_some _ (Heap.get?_push_size _ rfl), rfl, rfl⟩ (by rw [Heap.size_push, hz]) fun b o x => Heap.get?_push_of_some _ (Heap.get?_push_of_some _ x)⟩
end
def IteT (K : PySem.W.Frag) (a : Addr) : It :=
  ⟨fun i H => ∃ (xs : List V) (x : V), SqT K H a xs ∧ xs[i]? = some x, fun i H v H' => ∃ T x, v = .ref T ∧ H T = none ∧ H' = upd H T (.tup [.int (i : Nat), x]) ∧ ∀ xs, SqT K H a xs → xs[i]? = some x, fun i H => ∃ xs : List V, SqT K H a xs ∧ xs.length ≤ i⟩
theorem turn_enumT {P : Program} {w : PySem.World} {K : PySem.W.Frag} {elts : List Expr} {kk : Nat} {tpos : Pos} (a e it : Addr) :
    Turn P w K (.Tuple elts kk tpos) (IteT K a) [e, it] e (fun i h => (∃ old, IsEnum h e it ((i : Nat) : Int) old) ∧ h.IsTupleIter it a i ∧ e ≠ it) where
  mem := by simp
  obj := fun i h st b hb => by
    obtain ⟨⟨old, he⟩, ⟨o, ho, hc, hd⟩, _⟩ := st
    have e' : b = e ∨ b = it := by simpa using hb
    rcases e' with z | z
    · rw [z]
      exact ⟨_, he, fun v q => nomatch q⟩
    · rw [z]
      exact ⟨o, ho, fun v q => by rw [hd] at q; cases q⟩
  keep := fun i h h' st k => by
    obtain ⟨⟨old, he⟩, hi, hne⟩ := st
    exact ⟨⟨old, k e (by simp) _ he⟩, hi.at fun o q => k it (by simp) o q, hne⟩
  item := by
    intro X hP hw hK hc i pins s σ H E I hf st hg
    subst hP hw hK
    obtain ⟨⟨old, he⟩, hit, hne⟩ := st
    obtain ⟨xs, x, hq, hx⟩ := hg
    obtain ⟨its, rv, p, hz⟩ := I.tuple hq
    have p : s.heap.IsTuple a its.toArray := p
    obtain ⟨u, hu, ru⟩ := rv.get hx
    have hel : e < s.heap.objs.size := Heap.lt_size he
    have hil : it < s.heap.objs.size := by
      obtain ⟨_, q, _⟩ := hit
      exact Heap.lt_size q
    have nl : a ≠ it := fun z => by
      obtain ⟨o, q, c, _⟩ := hit
      obtain ⟨o', q', c', _⟩ := p
      rw [z, q] at q'
      cases q'
      rw [c] at c'
      exact absurd c' (by decide)
    have ne : a ≠ e := fun z => by
      obtain ⟨o', q', c', _⟩ := p
      rw [z, he] at q'
      cases q'
      exact absurd (show Value.type "enumerate" = Value.type "tuple" from c') (by decide)
    have hlt : i < its.toArray.size := by
      rw [List.size_toArray]
      exact (List.getElem?_eq_some_iff.mp hu).1
    refine wpAny_pyNext_enum_itemD (draws_tup (show X.A.in1.handled = none from I.ok.hd hc) it a nl its.toArray) he ⟨hit, p⟩ hlt hne (by simp [hne, Ne.symm ne]) fun x2 h' tk hP ho st' hT hsz hk => ?_
    have ex : x2 = u := by
      have h1 : its.toArray[i]? = some x2 := hP
      have h2 : its.toArray[i]? = some u := by simpa using hu
      rw [h1] at h2
      exact Option.some.inj h2
    subst ex
    refine ⟨_, rfl, wpAny_letOwnedTupleGo_enum (s := { s with heap := h', toks := tk + 1 }) ho fun h'' he' sb => ?_⟩
    have hT2 : h''.get? s.heap.objs.size = some { cls := .type "tuple", data := .seq #[.int i tk, x2] } := (sb.2 _ (Nat.ne_of_gt hel)).trans hT
    have new : ObjOk X.prog X.w (upd H s.heap.objs.size (.tup [.int (i : Nat), x])) h'' s.heap.objs.size (.tup [.int (i : Nat), x]) :=
      ⟨by show 2 ≤ sizeLine; decide, [.int i tk, x2], .cons ⟨_, rfl⟩ (.cons ru .nil), ⟨_, hT2, rfl, _, rfl⟩⟩
    have I1 : Inv X pins σ (upd H s.heap.objs.size (.tup [.int (i : Nat), x])) { s with heap := h'', toks := tk + 1 } :=
      I.turnedNew (ch := [e, it]) (fun b ob hb q => (sb.2 b (fun z => hb (by simp [z]))).trans (hk b ob (fun z => hb (by simp [z])) (fun z => hb (by simp [z])) q)) hf (Nat.le_refl _) new
    refine ⟨.ref s.heap.objs.size, _, I1, rfl, ⟨_, x, rfl, I.hok.fresh (Nat.le_refl _), rfl, fun ys hy => by rw [I.tuple_inj hy hq]; exact hx⟩, ⟨⟨x2, ?_⟩, st'.1.at fun o q => (sb.2 it (Ne.symm hne)).trans q, hne⟩, fun b hb => ?_⟩
    · have e1 : ((i + 1 : Nat) : Int) = (i : Int) + 1 := by omega
      rw [e1]
      exact he'
    · have hb' : b < s.heap.objs.size := by
        have e' : b = e ∨ b = it := by simpa using hb
        rcases e' with z | z
        · rw [z]; exact hel
        · rw [z]; exact hil
      rw [upd_ne (Nat.ne_of_lt hb')]
      exact (hf b hb).1
  done := by
    intro X hP hw hK hc i pins s σ H E I hf st hg
    subst hP hw hK
    obtain ⟨⟨old, he⟩, hit, hne⟩ := st
    obtain ⟨xs, hq, hx⟩ := hg
    obtain ⟨its, rv, p, hz⟩ := I.tuple hq
    have p : s.heap.IsTuple a its.toArray := p
    obtain ⟨f0, f1, f2, f3, f4, f5⟩ := hf it (by simp)
    have hl := rv.length
    unfold pyNext
    have hT : s.TypeIs (.ref e) "enumerate" := ⟨_, he, rfl⟩
    refine wpAny_bind (wpAny_attempt (wpAny_callSpecial?_slot (name := Str.ofString "__next__") hT F.slot_enumerate_next
      (wpAny_call_entry F.slot_enumerate_next hT F.entry_enumerate_next ?_ (F.args_enumerate_next_1 _))))
    show wpAny _ _ (field (.ref e) 2 >>= _) _ _ _
    refine wpAny_bind (wpAny_field he rfl (x := .ref it) rfl ?_)
    refine wpAny_bind (RZ.nextOf_tuple_end (show X.A.in1.handled = none from I.ok.hd hc) hit p (by simp; omega) fun h' x eb hx' => ?_)
    obtain ⟨o, ho, hc'⟩ := hx'
    refine wpAny_bind (wpAny_isInstance (T := "StopIteration") (b := true) ⟨o, ho, hc'⟩ isSubtype_stop ?_)
    exact wpAny_pure ⟨rfl, I.turned (t' := s.toks) (fun b o hb q => eb b o hb q) f0 f1 f3 f4 f5⟩
  self := fun A i s Q E st h => by
    obtain ⟨⟨_, he⟩, _⟩ := st
    exact wpAny_pyIter_enum he h
/-- enumerate(a list or a tuple) -/
def iEnumA (K : PySem.W.Frag) (ta : TA) : TI := fun σ H R => ta σ H fun vs H1 => ∃ a, vs = [.ref a] ∧ (((∃ xs, SqL K H1 a xs) ∧ R (Ite K a) H1) ∨ ((∃ xs, SqT K H1 a xs) ∧ R (IteT K a) H1))
theorem pi_enumA {X : Cx} {e : Expr} {ta : TA} {p pos tpos : Pos} {elts : List Expr} {kk : Nat} (hg : Gl X "enumerate") (hm : X.mg "enumerate" = none) (ha : PA X [e] ta) (hs : starEach [e] X.env = [(false, eval e X.env)] := by rfl) :
    PI X (.Tuple elts kk tpos) (.Call (.Name "enumerate" p) [e] [] pos) (iEnumA X.K ta) := by
  refine ⟨fun pins s σ H R I h => ?_⟩
  refine Call_ (ld_blt I hg hm boot_enumerate (PyProof.Rows.callWith_type1 (thn (ha.run pos pins s σ H _ I h) fun us s1 ⟨vs, H1, I1, r1, q1⟩ => ?_) hs rfl))
  obtain ⟨a, ex, q⟩ := q1
  subst ex
  cases r1 with
  | cons r rr =>
    cases rr
    cases r
    have fin : ∀ {J : It} {tn : Nat → Heap → Prop} {h' : Heap}, (∀ b o, s1.heap.get? b = some o → h'.get? b = some o) → Turn X.prog X.w X.K (.Tuple elts kk tpos) J [s1.heap.objs.size + 1, s1.heap.objs.size] (s1.heap.objs.size + 1) tn → tn 0 h' → R J H1 → PIE X pins σ (.Tuple elts kk tpos) R (.ref (s1.heap.objs.size + 1)) { s1 with heap := h' } := fun {J tn h'} hk T st q => by
      refine ⟨s1.heap.objs.size + 1, _, tn, J, H1, rfl, I1.kept (t' := s1.toks) hk, T, st, fun b hb => ?_, q⟩
      have e' : b = s1.heap.objs.size + 1 ∨ b = s1.heap.objs.size := by simpa using hb
      have hle : s1.heap.objs.size ≤ b := by
        rcases e' with z | z
        · rw [z]; exact Nat.le_add_right _ _
        · rw [z]; exact Nat.le_refl _
      exact I1.fpOk hle (I1.hok.fresh hle)
    rcases q with ⟨⟨xs, hq⟩, q⟩ | ⟨⟨xs, hq⟩, q⟩
    · obtain ⟨its, rv, p', hz⟩ := I1.list hq
      exact call_enumerate_list p'.isList fun h' he hit hsz hk => wpAny_pyIter_enum he (fin hk (turn_enum a _ _) ⟨⟨.none, he⟩, hit, Nat.succ_ne_self _⟩ q)
    · obtain ⟨its, rv, p', hz⟩ := I1.tuple hq
      exact call_enumT (show s1.heap.IsTuple a its.toArray from p') fun h' he hit hsz hk => wpAny_pyIter_enum he (fin hk (turn_enumT a _ _) ⟨⟨.none, he⟩, hit, Nat.succ_ne_self _⟩ q)
def enumD (ds : List D) : List D := ds.mapIdx fun i d => .tuple [.int (i : Nat), d]
section
variable {X : Cx} {P : Par2} {pv : List (Nat × V)} {M : List Md} {W : WX} {k : Nat}
theorem walk_pair {P : Par} {J : It} {ds es : List D} {us : List Ent} (hl : es.length = ds.length)
    (h : ∀ (B : Hp) (G F : Addr → Prop) (es' : List Ent) (H : Hp), World P B G F es' H → (∀ e ∈ us, e ∈ es') → ∀ i : Nat, (∀ d, ds[i]? = some d → J.go i H ∧ ∀ v H', J.yld i H v H' → ∃ T x, v = .ref T ∧ H T = none ∧ H' = upd H T (.tup x) ∧ ∃ y, es[i]? = some (.tuple y) ∧ RFs P H F x y) ∧ (ds.length ≤ i → J.stop i H)) : Walk P J us es := fun B G F es' H w hu i => by
  obtain ⟨h1, h2⟩ := h B G F es' H w hu i
  refine ⟨fun d hd => ?_, fun hi => h2 (by rw [← hl]; exact hi)⟩
  have hi : i < ds.length := by
    rw [← hl]
    exact (List.getElem?_eq_some_iff.mp hd).1
  obtain ⟨hgo, hy⟩ := h1 ds[i] (List.getElem?_eq_getElem hi)
  refine ⟨hgo, fun v H' y => ?_⟩
  obtain ⟨T, x, rfl, hT, rfl, z, ez, r⟩ := hy v H' y
  rw [hd] at ez
  cases ez
  exact ⟨F, fun _ z => z, w.heap_alloc hT, .tup (.inl (.inl upd_same)) (r.stay (Stay.alloc hT) fun _ z => z)⟩
def enumI (fa : FnA) : FnI := fun ρ => fa ρ >>= fun x => ofO ((match x.1 with | [d] => (seqD d).map enumD | _ => none).map fun ds => (ds, x.2))
theorem is_enum {e : Expr} {fa : FnA} {p pos tpos : Pos} {elts : List Expr} {kk : Nat} (C : CtxOk X P k) (hg : Gl X "enumerate") (hm : X.mg "enumerate" = none) (ha : TAs X P pv M W [e] [.tm .frz] fa) (hs : starEach [e] X.env = [(false, eval e X.env)] := by rfl) :
    PI X (.Tuple elts kk tpos) (.Call (.Name "enumerate" p) [e] [] pos) (tI P pv M W (enumI fa)) :=
  (pi_enumA hg hm ha.pa hs).imp fun σ H Rq ⟨B, G, F, ρ, ts, s, kq⟩ => by
    refine ⟨B, G, F, ρ, ts, s, ?_⟩
    unfold enumI at kq
    cases e1 : fa ρ with
    | bad => rw [e1] at kq; exact kq
    | exc c xs ρ' => rw [e1] at kq; exact kq
    | ok x =>
      obtain ⟨ds, ρ'⟩ := x
      rw [e1] at kq
      intro vs H' F' s' hh hF
      have r := ha.frozen (by simp) e1 s' hh
      have hl := ha.len _ _ _ e1
      match ds, vs, hl, r, s', kq with
      | [d], [v], _, .cons r .nil, s', kq =>
        have s' : Stt P B G F' pv M ρ' σ ((.frz, d, some v) :: ts) H' := s'
        cases r with
        | @tup a vs ds sq r =>
          refine ⟨a, rfl, .inr ⟨⟨vs, by rw [C.hK]; exact sq⟩, kq _ [(.frz, .tuple ds, some (.ref a))] H' F' s' hF (walk_pair (ds := ds) (by simp [enumD]) fun B G F es' H w hu i => ?_)⟩⟩
          have rr := w.rf_frz (hu _ List.mem_cons_self)
          cases rr with
          | @tup _ vs2 _ e2 r2 =>
            have e3 : SqT X.K H a vs2 := by rw [C.hK]; exact e2
            refine ⟨fun d hd => ?_, fun hi => ⟨vs2, e3, by rw [r2.length]; exact hi⟩⟩
            obtain ⟨v, ev, rv⟩ := r2.get hd
            refine ⟨⟨vs2, v, e3, ev⟩, fun v2 H' y => ?_⟩
            obtain ⟨T, x, rfl, hT, rfl, hx⟩ := y
            have := hx vs2 e3
            rw [ev] at this
            cases this
            refine ⟨T, _, rfl, hT, rfl, _, ?_, .cons (.int _) (.cons rv .nil)⟩
            simp [enumD, List.getElem?_mapIdx, hd]
        | @lst a vs ds f ea r =>
          refine ⟨a, rfl, .inl ⟨⟨vs, SqL.of ea⟩, kq _ [(.frz, .list ds, some (.ref a))] H' F' s' hF (walk_pair (ds := ds) (by simp [enumD]) fun B G F es' H w hu i => ?_)⟩⟩
          have rr := w.rf_frz (hu _ List.mem_cons_self)
          cases rr with
          | @lst _ vs2 _ _ e2 r2 =>
            have e3 : SqL X.K H a vs2 := SqL.of e2
            refine ⟨fun d hd => ?_, fun hi => ⟨vs2, e3, by rw [r2.length]; exact hi⟩⟩
            obtain ⟨v, ev, rv⟩ := r2.get hd
            refine ⟨⟨vs2, v, e3, ev⟩, fun v2 H' y => ?_⟩
            obtain ⟨T, x, rfl, hT, rfl, hx⟩ := y
            have := hx vs2 e3
            rw [ev] at this
            cases this
            refine ⟨T, _, rfl, hT, rfl, _, ?_, .cons (.int _) (.cons rv .nil)⟩
            simp [enumD, List.getElem?_mapIdx, hd]
        | _ => exact kq.elim
end
end Z

set_option maxRecDepth 100000
set_option maxHeartbeats 1000000
namespace Z
open PySem PySem.Spec PyProof.Rows L2

/-! ### t[::-1] -/
section
variable {prog : Program} {w : PySem.World} {A : Around} {E : Value → Shared → Prop} {s : Shared}
theorem fm_congr {α β : Type} {f g : α → Option β} : ∀ (l : List α), (∀ x ∈ l, f x = g x) → l.filterMap f = l.filterMap g
  | [], _ => rfl
  | x :: l, h => by
    rw [List.filterMap_cons, List.filterMap_cons, h x List.mem_cons_self, fm_congr l fun y hy => h y (List.mem_cons_of_mem _ hy)]
theorem rev_pick (xs : Array Value) : ((List.range xs.size).filterMap fun (m : Nat) => xs[(((xs.size : Nat) : Int) - 1 + (m : Int) * (-1)).toNat]?).toArray = xs.toList.reverse.toArray := by
  have e1 : (List.range xs.size).filterMap (fun (m : Nat) => xs[(((xs.size : Nat) : Int) - 1 + (m : Int) * (-1)).toNat]?) = ((List.range xs.size).map fun k => xs.size - 1 - k).filterMap (xs[·]?) := by
    rw [List.filterMap_map]
    refine fm_congr _ fun m hm => ?_
    have := List.mem_range.mp hm
    show _ = xs[xs.size - 1 - m]?
    congr 1
    omega
  rw [e1, PySem.W.krv_range, List.filterMap_reverse, PySem.W.krv_all]
theorem sliceRev {sl : Addr} {vs : Value} {n : Nat} {Q : Int × Int × Nat → Shared → Prop} (hs : s.heap.IsSliceOf sl .none .none vs) (ps : IsPart vs (some (-1)))
    (h : Q (((n : Nat) : Int) - 1, -1, n) s) : wpAny (model prog w) A (Builtin.Slice.sliceApplied (.ref sl) (pure (n : Int))) Q E s := by
  obtain ⟨os, hos, hcs, hds⟩ := id hs
  unfold Builtin.Slice.sliceApplied Builtin.Slice.sliceFields
  refine wpAny_bind (wpAny_bind (wpAny_field hos hds (x := .none) rfl (wpAny_bind (wpAny_field hos hds (x := .none) rfl (wpAny_bind (wpAny_field hos hds (x := vs) rfl (wpAny_pure ?_)))))))
  refine wpAny_bind (HT.slicePart_ ps ?_)
  show wpAny _ _ (if ((-1 : Int) == 0) = true then _ else _) _ _ s
  rw [if_neg (by decide)]
  refine wpAny_bind (HT.slicePart_ .none (wpAny_bind (HT.slicePart_ .none (wpAny_bind (wpAny_pure ?_)))))
  show wpAny _ _ (pure (((n : Nat) : Int) - 1, (-1 : Int), Builtin.Slice.slicePlaces (((n : Nat) : Int) - 1) (-1) (-1))) _ _ s
  have e : Builtin.Slice.slicePlaces (((n : Nat) : Int) - 1) (-1) (-1) = n := by
    unfold Builtin.Slice.slicePlaces
    rw [if_neg (by decide)]
    by_cases hn : ((n : Nat) : Int) - 1 > -1
    · rw [if_pos hn]
      show ((((n : Nat) : Int) - 1 - -1 - 1) / (- -1) + 1).toNat = n
      rw [show (- -1 : Int) = 1 by decide, Int.ediv_one]
      omega
    · rw [if_neg hn]
      show (0 : Int).toNat = n
      omega
  rw [e]
  exact wpAny_pure h
theorem getItem_tupRev {t sl : Addr} {items : Array Value} {vs : Value} {Q : Value → Shared → Prop} (ht : IsTup s.heap t items) (hs : s.heap.IsSliceOf sl .none .none vs) (ps : IsPart vs (some (-1)))
    (h : Q (.ref s.heap.objs.size) { s with heap := s.heap.push { cls := .type "tuple", data := .seq items.toList.reverse.toArray } })
    (hsz : items.size ≤ sizeLine) : wpAny (model prog w) A (getItem (.ref t) (.ref sl)) Q E s := by
  have htake : sizeOk (.seq items.toList.reverse.toArray) := by
    show items.toList.reverse.toArray.size ≤ sizeLine
    rw [List.size_toArray, List.length_reverse, Array.length_toList]
    exact hsz
  obtain ⟨os, hos, hcs, hds⟩ := id hs
  have hTs : s.TypeIs (.ref sl) "slice" := ⟨os, hos, hcs⟩
  unfold getItem
  try with_reducible refine wpAny_holding ?_
  first | refine wpAny_bind (wpAny_pure ?_) | skip
  refine wpAny_bind (wpAny_sequenceKey ht.typeIs (by decide) ?_)
  refine wpAny_bind (wpAny_callSpecial?_slot (name := Str.ofString "__getitem__") ht.typeIs PyProof.Rows.slot_tuple_getitem
    (wpAny_call_entry PyProof.Rows.slot_tuple_getitem ht.typeIs PyProof.Rows.entry_tuple_getitem ?_ (PyProof.Rows.args_tuple_getitem _ _)))
  show wpAny _ _ (Builtin.Tuple.tupleItemsOf (.ref t) >>= _) _ _ s
  refine wpAny_bind (tupleItemsOf_ ht ?_)
  refine wpAny_bind (wpAny_typeOf hTs ?_)
  rw [if_pos (by decide)]
  refine wpAny_bind (sliceRev hs ps ?_)
  have hno : ¬ (((((items.size : Nat) : Int) - 1) == 0 && (-1 : Int) == 1 && items.size == items.size) = true) := by
    intro q
    rw [Bool.and_eq_true, Bool.and_eq_true] at q
    exact absurd q.1.2 (by decide)
  show wpAny _ _ (if ((((items.size : Nat) : Int) - 1) == 0 && (-1 : Int) == 1 && items.size == items.size) = true then _ else _) _ _ s
  rw [if_neg hno, rev_pick]
  first
    | exact wpAny_bind (m := Builtin.Tuple.tupleExact _) (wpAny_newObj_type (wpAny_pure ⟨_, rfl, wpAny_pure h⟩) htake)
    | exact wpAny_bind (m := Builtin.Tuple.tupleExact _) (wpAny_newObj_type (wpAny_bind (wpAny_pure (wpAny_pure ⟨_, rfl, wpAny_pure h⟩))) htake)
    | exact wpAny_bind (wpAny_bind (m := Builtin.Tuple.tupleExact _) (wpAny_newObj_type (wpAny_pure (wpAny_pure ⟨_, rfl, wpAny_pure h⟩)) htake))
    | exact wpAny_bind (wpAny_bind (m := Builtin.Tuple.tupleExact _) (wpAny_newObj_type (wpAny_pure ⟨_, rfl, wpAny_pure h⟩) htake))
end
def tRevA (K : PySem.W.Frag) (te : TE) : TE := fun σ H Q => te σ H fun x H1 => ∃ a xs, x = .ref a ∧ ((SqL K H1 a xs ∧ ∀ p, H1 p = none → Q (.ref p) (upd H1 p (.lst xs.reverse))) ∨ (SqT K H1 a xs ∧ ∀ p, H1 p = none → Q (.ref p) (upd H1 p (.tup xs.reverse))))
section
variable {X : Cx}
theorem pe_revA {e : Expr} {te : TE} {k : Nat} {p1 p2 p3 pos : Pos} (he : PE X e te) : PE X (.Subscript e (.Slice none none (some (.UnaryOp .USub (.Constant (.int 1) k p1) p2)) p3) pos) (tRevA X.K te) := by
  refine ⟨fun pins s σ H Q I h => ?_⟩
  refine Subscript_ (thn (he.run pins s σ H _ I h) fun v s1 ⟨x, H1, I1, r1, q1⟩ => ?_)
  obtain ⟨a, xs, ex, q⟩ := q1
  subst ex
  cases r1
  have hst : PO X (some (.UnaryOp .USub (.Constant (.int 1) k p1) p2)) (tPart (tUn (rU fun i => .int (-i)) (tC (.int 1)))) := po_some (pe_un un_neg pe_int)
  refine wpAny_Slice (thn (po_none.run pins s1 σ H1 (fun o H2 => o = none ∧ H2 = H1) I1 ⟨rfl, rfl⟩) fun vl s2 ⟨l, H2, I2, pl, el, e2⟩ => ?_)
  subst el e2
  refine thn (po_none.run pins s2 σ H2 (fun o H3 => o = none ∧ H3 = H2) I2 ⟨rfl, rfl⟩) fun vu s3 ⟨u, H3, I3, pu, eu, e3⟩ => ?_
  subst eu e3
  refine thn (hst.run pins s3 σ H3 (fun o H4 => o = some (-1) ∧ H4 = H3) I3 ⟨1, rfl, -1, rfl, rfl, rfl⟩) fun vs s4 ⟨o, H4, I4, ps, eo, e4⟩ => ?_
  subst eo e4
  cases pl
  cases pu
  have I5 : Inv X pins σ H4 { s4 with heap := s4.heap.push { cls := .type "slice", data := .fields #[.none, .none, vs] } } := I4.kept (t' := s4.toks) fun b ob q => Heap.get?_push_of_some _ q
  show wpAny (model X.prog X.w) X.A (subscriptTail e (.Slice none none (some (.UnaryOp .USub (.Constant (.int 1) k p1) p2)) p3) (.ref a) (.ref s4.heap.objs.size)) (EP X pins σ Q) X.xe { s4 with heap := s4.heap.push { cls := .type "slice", data := .fields #[.none, .none, vs] } }
  rcases q with ⟨hx, q⟩ | ⟨hx, q⟩
  · obtain ⟨its, r, ht, hz⟩ := I5.list hx
    have hlen := r.length
    refine tail_any (ops := [.ref a, .ref s4.heap.objs.size]) ht.isList.typeIs (PySem.slot_list_getitem.lookup) ?_ (by with_unfolding_all rfl)
    refine wpAny_getItem_list_slice ht.isList (Heap.IsSliceOf.new _ .none .none vs) .none .none ps (by decide) ?_ (by rw [List.size_toArray]; omega)
    rw [PySem.W.krv_pick]
    refine ⟨.ref _, _, I5.laid (t' := s4.toks) (o := .lst xs.reverse) (fun b ob q => Heap.get?_push_of_some _ q) (Nat.le_refl _) ?_, rfl, q _ (I5.hok.fresh (Nat.le_refl _))⟩
    exact ⟨by rw [List.length_reverse]; exact hz, _, 0, r.reverse, Heap.get?_push_size _ rfl⟩
  · obtain ⟨its, r, ht, hz⟩ := I5.tuple hx
    have hlen := r.length
    refine tail_any (ops := [.ref a, .ref s4.heap.objs.size]) ht.typeIs (PyProof.Rows.slot_tuple_getitem.lookup) ?_ (by with_unfolding_all rfl)
    refine getItem_tupRev ht (Heap.IsSliceOf.new _ .none .none vs) ps ?_ (by rw [List.size_toArray]; omega)
    refine ⟨.ref _, _, I5.laid (t' := s4.toks) (o := .tup xs.reverse) (fun b ob q => Heap.get?_push_of_some _ q) (Nat.le_refl _) ?_, rfl, q _ (I5.hok.fresh (Nat.le_refl _))⟩
    exact ⟨by rw [List.length_reverse]; exact hz, _, by simpa using r.reverse, IsTup.new _ _⟩
end
section
variable {X : Cx} {P : Par2} {pv : List (Nat × V)} {M : List Md} {W : WX} {k : Nat}
/-- one operand, then what is made of it -/
theorem one_view {a : Expr} {oa : Om} {fa : Fn'} (ha : TO X P pv M W a oa fa) (la : oa.flat M = true) {g : D → Option D} {m : Md} {σ : L2.St} {H : Hp} {Q : VK} {r : V → Hp → Prop} (h : tO P pv M (.tm m) W (un1 g fa) σ H Q)
    (hr : ∀ (B : Hp) (G F : Addr → Prop) (es : List Ent) (d z : D) (v : V) (H' : Hp), World P.toPar B G F es H' → Vw P.toPar H' F v d → g d = some z → Res P.toPar B G F es m z Q → r v H') : tO P pv M oa W fa σ H r := by
  obtain ⟨B, G, F, ρ, ts, s, kk⟩ := h
  refine ⟨B, G, F, ρ, ts, s, ?_⟩
  unfold un1 at kk
  cases e1 : fa ρ with
  | bad => rw [e1] at kk; exact kk
  | exc c xs ρ' => rw [e1] at kk; exact kk
  | ok x =>
    obtain ⟨d1, ρ1⟩ := x
    rw [e1] at kk
    intro v1 H1 F1 s1 h1 hF1
    have kk : Post P B G F pv M σ ts (.tm m) W Q (ofO ((g d1).map fun z => (z, ρ1))) := kk
    cases e3 : g d1 with
    | none => rw [e3] at kk; exact kk.elim
    | some z =>
      rw [e3] at kk
      refine hr B G F1 _ d1 z v1 H1 s1.w (s1.opnd (fun e he => List.mem_append_left _ he) la h1 fun i hi => ?_) e3 fun v H' F' w' hF' => ?_
      · have q := ha.sl i hi
        rw [q] at e1
        cases e1
        rfl
      · have s3 : Stt P B G F' pv M ρ1 σ ((m, z, some v) :: (oa.ent d1 v1 ++ ts)) H' := s1.to w'
        exact kk v H' F' s3.dropM trivial fun a z => hF' a (hF1 a z)
def revD : D → Option D
  | .list ds => some (.list ds.reverse)
  | .tuple ds => some (.tuple ds.reverse)
  | _ => none
def revLD : D → Option D
  | .list ds => some (.list ds.reverse)
  | _ => none
theorem TO.rev {a : Expr} {oa : Om} {fa : Fn'} {kk : Nat} {p1 p2 p3 pos : Pos} (C : CtxOk X P k) (ha : TO X P pv M W a oa fa) (la : oa.flat M = true) : TO X P pv M W (.Subscript a (.Slice none none (some (.UnaryOp .USub (.Constant (.int 1) kk p1) p2)) p3) pos) (.tm .frz) (un1 revD fa) :=
  ⟨(pe_revA ha.pe).imp fun σ H Q h => one_view ha la h fun B G F es d z v H' w r hg kq => by
    cases r <;> simp only [revD, reduceCtorEq, Option.some.injEq] at hg
    · subst hg
      rename_i a vs ds sq r
      exact ⟨a, vs, rfl, .inr ⟨by rw [C.hK]; exact sq, fun p hp => kq _ _ _ (w.tup hp r.reverse) fun _ z => z⟩⟩
    · subst hg
      rename_i a vs ds ea r
      refine ⟨a, vs, rfl, .inl ⟨SqL.of ea, fun p hp => ?_⟩⟩
      obtain ⟨F', hF, w'⟩ := w.lstF r.reverse hp
      exact kq _ _ F' w' hF, fun _ z => nomatch z⟩
theorem TO.revL {a : Expr} {oa : Om} {fa : Fn'} {kk : Nat} {p1 p2 p3 pos : Pos} (C : CtxOk X P k) (ha : TO X P pv M W a oa fa) (la : oa.flat M = true) : TO X P pv M W (.Subscript a (.Slice none none (some (.UnaryOp .USub (.Constant (.int 1) kk p1) p2)) p3) pos) (.tm (.lst .frz)) (un1 revLD fa) :=
  ⟨(pe_revA ha.pe).imp fun σ H Q h => one_view ha la h fun B G F es d z v H' w r hg kq => by
    cases r <;> simp only [revLD, reduceCtorEq, Option.some.injEq] at hg
    subst hg
    rename_i a vs ds ea r
    exact ⟨a, vs, rfl, .inl ⟨SqL.of ea, fun p hp => kq _ _ _ (w.lst0 r.reverse hp) fun _ z => z⟩⟩, fun _ z => nomatch z⟩

/-! ### isinstance(x, T) -/
def tyN : D → String
  | .none => "NoneType"
  | .bool _ => "bool"
  | .int _ => "int"
  | .str _ => "str"
  | .list _ => "list"
  | .tuple _ => "tuple"
  | .dict _ => "dict"
theorem Vw.tyX {K : PySem.W.Frag} {P : Par} {H : Hp} {F : Addr → Prop} {v : V} {d : D} (hK : K = P.K) (r : Vw P H F v d) : TyX K H v (.type (tyN d)) := by
  cases r with
  | non => exact .base .non
  | bl b => exact .base (.bl b)
  | int i => exact .base (.int i)
  | str x => exact .base (.str x)
  | @tup a vs ds sq r =>
    rcases sq with (h | ⟨o, h⟩) | ⟨o, its, n, h, c, _⟩
    · exact .base (.tup h)
    · exact .fTuple h
    · exact .kTuple (hK ▸ h) c
  | lst e r => exact .base (.lst e)
  | dK e r => exact .base (.dK e)
  | dT e r => exact .base (.dT e)
def isiD (T : String) (d : D) : Option D := (kitB (tyN d) T).map PyData.bool
theorem TO.isi {x : Str} {a : Expr} {oa : Om} {fa : Fn'} {T : String} {p p2 pos : Pos} (C : CtxOk X P k) (hg : Gl X "isinstance") (hm : X.mg "isinstance" = none) (ht : PE X (.Name x p2) (tC (.ty T))) (ha : TO X P pv M W a oa fa) (la : oa.flat M = true)
    (he : starEach [a, .Name x p2] X.env = (false, eval a X.env) :: starEach [.Name x p2] X.env := by rfl) (he2 : starEach [.Name x p2] X.env = (false, eval (.Name x p2) X.env) :: starEach [] X.env := by rfl) (hpl : (backTo pos (starEach [.Name x p2] X.env)).any (·.1) = false := by rfl) :
    TO X P pv M W (.Call (.Name "isinstance" p) [a, .Name x p2] [] pos) (.tm .frz) (un1 (isiD T) fa) :=
  ⟨(pe_callB call_isi hg hm boot_isinstance (pa_cons ha.pe (pa_cons ht pa_nil he2) he) (by decide) (by decide) he hpl).imp fun σ H Q h => by
    show tO P pv M oa W fa σ H fun v H1 => _
    refine one_view ha la h fun B G F es d z v H' w r hg kq => ?_
    obtain ⟨b, eb, rfl⟩ := Option.map_eq_some_iff.mp hg
    exact ⟨v, .ty T, .type (tyN d), .type T, b, rfl, .ty T, r.tyX C.hK, kit_ty eb, kq.rf w (.bl b)⟩, fun _ z => nomatch z⟩
end
end Z

set_option maxRecDepth 100000
set_option maxHeartbeats 1000000
namespace Z
open PySem PySem.Spec PyProof.Rows L2

section
variable {X : Cx} {P : Par2} {pv : List (Nat × V)} {M Mt Mn : List Md} {W : WX} {k : Nat} {J : Sg}
/-! ### list.index, list.remove -/
def indexD (ds : List D) (d : D) : Option D := if SeqAt.shaped (.list ds) = true ∧ SeqAt.shaped d = true then (ds.findIdx? fun z => PyData.eqv z d).map fun j => .int (j : Nat) else none
def isL : D → Option (List D)
  | .list ds => some ds
  | _ => none
def indexF (fo fe : Fn') : Fn' := fun ρ => fo ρ >>= fun x => ofO (isL x.1) >>= fun ds => fe x.2 >>= fun y => ofO ((indexD ds y.1).map fun z => (z, y.2))
theorem room65 (C : CtxOk X P k) : X.A.units + 65 < cLine := by
  have := C.hr.un
  omega
theorem TO.index {o e : Expr} {oo oe : Om} {fo fe : Fn'} {apos cpos : Pos} (C : CtxOk X P k) (ho : TO X P pv M W o oo fo) (he : TO X P pv M W e oe fe) (pf : ∀ i, oo = .sl i → PureF fe) (lo : oo.flat M = true) (le : oe.flat M = true)
    (hbase : attributeBase o "index" X.env (eval o X.env) = eval o X.env := by rfl)
    (hfew : ((backTo cpos (starEach [e] X.env)).all (fun x => !x.1) && (backToKw cpos (keywordEach [] X.env)).all (fun x => x.1.isSome)
      && decide (([e] : List Expr).length + ([] : List Keyword).length + (if ([] : List Keyword).isEmpty then 0 else 1) < 30)) = true := by rfl)
    (hline : (apos.endLine == cpos.line) = true := by rfl) (hs : starEach [e] X.env = (false, eval e X.env) :: starEach [] X.env := by rfl) :
    TO X P pv M W (.Call (.Attribute o "index" apos) [e] [] cpos) (.tm .frz) (indexF fo fe) :=
  ⟨(pe_bm PySem.F.plainAttrs_list PySem.F.slot_list_index PySem.F.type_list_index (mt_indexD (room65 C)) ho.pe (pa_cons he.pe pa_nil hs) hbase hfew hline hs rfl).imp fun σ H Q ⟨B, G, F, ρ, ts, s, kk⟩ => by
    refine ⟨B, G, F, ρ, ts, s, ?_⟩
    have kk : Post P B G F pv M σ ts (.tm .frz) W Q (fo ρ >>= fun x => ofO (isL x.1) >>= fun ds => fe x.2 >>= fun y => ofO ((indexD ds y.1).map fun z => (z, y.2))) := kk
    cases e1 : fo ρ with
    | bad => rw [e1] at kk; exact kk
    | exc c xs ρ' => rw [e1] at kk; exact kk
    | ok x =>
      obtain ⟨d1, ρ1⟩ := x
      rw [e1] at kk
      intro v1 H1 F1 s1 h1 hF1
      have hd1 : ∀ i, oo = .sl i → d1 = ρ1.getD i .none := fun i hi => by
        have q := ho.sl i hi
        rw [q] at e1
        cases e1
        rfl
      have vw1 := s1.opnd (o := oo) (d := d1) (v := v1) (fun e he => List.mem_append_left _ he) lo h1 hd1
      cases vw1 with
      | @lst a vs ds ea r =>
        refine ⟨.inl ⟨rfl, vs, SqL.of ea⟩, B, G, F1, ρ1, _, s1, ?_⟩
        have kk : Post P B G F pv M σ ts (.tm .frz) W Q (fe ρ1 >>= fun y => ofO ((indexD ds y.1).map fun z => (z, y.2))) := kk
        cases e2 : fe ρ1 with
        | bad => rw [e2] at kk; exact kk
        | exc c xs ρ' =>
          rw [e2] at kk
          exact fun cls dx H' F' s' hx hF' => kk cls dx H' F' s'.dropL hx fun a z => hF' a (hF1 a z)
        | ok y =>
          obtain ⟨d2, ρ2⟩ := y
          rw [e2] at kk
          intro v2 H2 F2 s2 h2 hF2
          have kk : Post P B G F pv M σ ts (.tm .frz) W Q (ofO ((indexD ds d2).map fun z => (z, ρ2))) := kk
          have vx1 : Vw P.toPar H2 F2 (.ref a) (.list ds) := s2.opnd (o := oo) (fun e he => List.mem_append_right _ (List.mem_append_left _ he)) lo h1 fun i hi => by
            rw [pf i hi _ _ _ e2]
            exact hd1 i hi
          have vx2 : Vw P.toPar H2 F2 v2 d2 := s2.opnd (fun e he => List.mem_append_left _ he) le h2 fun i hi => by
            have q := he.sl i hi
            rw [q] at e2
            cases e2
            rfl
          unfold indexD at kk
          split at kk
          · rename_i hsh
            cases e3 : ds.findIdx? (fun z => PyData.eqv z d2) with
            | none => rw [e3] at kk; exact kk.elim
            | some j =>
              rw [e3] at kk
              obtain ⟨hj, hz, hno⟩ := List.findIdx?_eq_some_iff_getElem.mp e3
              refine ⟨a, v2, d2, ds, j, ds[j], rfl, rfl, by rw [C.hK]; exact vx1.dp (SeqAt.canLay_of_shaped hsh.1), by rw [C.hK]; exact vx2.dp (SeqAt.canLay_of_shaped hsh.2), hsh.1, hsh.2, List.getElem?_eq_getElem hj, hz, fun m z' hm hz' => ?_, ?_⟩
              · have hml : m < ds.length := by omega
                rw [List.getElem?_eq_getElem hml] at hz'
                cases hz'
                have := hno m hm
                simpa using this
              · refine kk _ H2 F2 ?_ trivial fun a z => hF2 a (hF1 a z)
                exact (s2.dropL.dropL).push (.int _)
          · exact kk.elim
      | non => exact kk.elim
      | bl b => exact kk.elim
      | int i => exact kk.elim
      | str x => exact kk.elim
      | tup _ _ => exact kk.elim
      | dK _ _ => exact kk.elim
      | dT _ _ => exact kk.elim, fun _ z => nomatch z⟩
def removeG : List D → List D → Option (D × List D) := fun l ds => match ds with
  | [.int i] => (intsOf l).bind fun ns => (ns.findIdx? (· == i)).map fun j => (.none, (ns.eraseIdx j).map PyData.int)
  | _ => none
theorem lm_remove : LM X P.toPar "list.remove" .frz .frz removeG := by
  intro pins s σ H x vs v us Q I rx rv ⟨B, G, F, es, a, l, l', z, ds, ex, w, r, hg, k⟩
  subst ex
  obtain ⟨xs, e, S, rs⟩ := w.lstAt
  cases r with
  | nil => simp [removeG] at hg
  | cons r1 rr =>
    cases rr with
    | cons => cases r1 <;> simp [removeG] at hg
    | nil =>
      cases r1 with
      | int i =>
        obtain ⟨ns, e1, e2⟩ := Option.bind_eq_some_iff.mp hg
        obtain ⟨j, e3, e4⟩ := Option.map_eq_some_iff.mp e2
        cases e4
        obtain ⟨hj, hz, hno⟩ := List.findIdx?_eq_some_iff_getElem.mp e3
        have hl := intsOf_some e1
        subst hl
        have rf := rs.of_frz.1
        have hv := rf.ints
        subst hv
        refine mt_remove pins s σ H _ _ v us Q I rx rv ⟨a, ns, i, j, rfl, rfl, e, ?_, fun m hm z => ?_, k _ _ ((w.relist0 e fun q => RFs.of_ints _).push .non)⟩
        · rw [List.getElem?_eq_getElem hj]
          exact congrArg some (by simpa using hz)
        · have hml : m < ns.length := by omega
          rw [List.getElem?_eq_getElem hml] at z
          have := hno m hm
          simp at this
          exact this (Option.some.inj z)
      | _ => simp [removeG] at hg

/-! ### {k: v} -/
def keyD : D → Option Key
  | .int i => some (.inl i)
  | .str x => some (.inr x)
  | _ => none
theorem RF.key {P : Par} {H : Hp} {F : Addr → Prop} {v : V} {d : D} {κ : Key} (r : RF P H F v d) (h : keyD d = some κ) : v = kV κ ∧ d = kD κ := by
  cases r <;> simp only [keyD, reduceCtorEq, Option.some.injEq] at h <;> subst h <;> exact ⟨rfl, rfl⟩
def dict1F (fk fv : Fn') : Fn' := fun ρ => fk ρ >>= fun x => fv x.2 >>= fun y => ofO ((keyD x.1).map fun _ => (.dict [(x.1, y.1)], y.2))
theorem TO.dict1 {ek ev : Expr} {fk fv : Fn'} {pos : Pos} (hk : TO X P pv M W ek (.tm .frz) fk) (hv : TO X P pv M W ev (.tm .frz) fv) : TO X P pv M W (.Dict [some ek] [ev] pos) (.tm .dK) (dict1F fk fv) :=
  ⟨(pe_disp (pps_cons hk.pe hv.pe pps_nil) rfl rfl (by simp) (show 1 ≤ 15 by decide)).imp fun σ H Q ⟨B, G, F, ρ, ts, s, kk⟩ => by
    intro p hp
    have s0 : Stt P B G F pv M ρ σ ((.dK, .dict [], some (.ref p)) :: ts) (upd H p (.dK [])) := s.to (World.dK0 s.w hp)
    refine ⟨B, G, F, ρ, _, s0, ?_⟩
    have kk : Post P B G F pv M σ ts (.tm .dK) W Q (fk ρ >>= fun x => fv x.2 >>= fun y => ofO ((keyD x.1).map fun _ => (.dict [(x.1, y.1)], y.2))) := kk
    cases e1 : fk ρ with
    | bad => rw [e1] at kk; exact kk
    | exc c xs ρ' =>
      rw [e1] at kk
      exact fun cls dx H' F' s' hx hF' => kk cls dx H' F' s'.drop1 hx hF'
    | ok x =>
      obtain ⟨d1, ρ1⟩ := x
      rw [e1] at kk
      intro v1 H1 F1 s1 _ hF1
      refine ⟨B, G, F1, ρ1, _, s1, ?_⟩
      have kk : Post P B G F pv M σ ts (.tm .dK) W Q (fv ρ1 >>= fun y => ofO ((keyD d1).map fun _ => (.dict [(d1, y.1)], y.2))) := kk
      cases e2 : fv ρ1 with
      | bad => rw [e2] at kk; exact kk
      | exc c xs ρ' =>
        rw [e2] at kk
        exact fun cls dx H' F' s' hx hF' => kk cls dx H' F' s'.dropL.drop1 hx fun a z => hF' a (hF1 a z)
      | ok y =>
        obtain ⟨d2, ρ2⟩ := y
        rw [e2] at kk
        intro v2 H2 F2 s2 _ hF2
        have s2 : Stt P B G F2 pv M ρ2 σ ((.frz, d2, some v2) :: (.frz, d1, some v1) :: (.dK, .dict [], some (.ref p)) :: ts) H2 := s2
        have kk : Post P B G F pv M σ ts (.tm .dK) W Q (ofO ((keyD d1).map fun _ => (.dict [(d1, d2)], ρ2))) := kk
        cases e3 : keyD d1 with
        | none => rw [e3] at kk; exact kk.elim
        | some κ =>
          rw [e3] at kk
          have r2 := s2.w.rf_frz (d := d2) (v := v2) List.mem_cons_self
          have r1 := s2.w.rf_frz (d := d1) (v := v1) (List.mem_cons_of_mem _ List.mem_cons_self)
          obtain ⟨rfl, rfl⟩ := r1.key e3
          obtain ⟨v', ev, S, rm, _⟩ := s2.w.mem (m := .dK) (d := .dict []) (v := some (.ref p)) (List.mem_cons_of_mem _ (List.mem_cons_of_mem _ List.mem_cons_self)) (by decide)
          cases ev
          cases rm with
          | dK ep rk =>
            cases rk
            refine ⟨ep, [(κ, v2)], rfl, show 1 ≤ 15 by decide, ?_⟩
            have w3 : World P.toPar B G F2 ((.dK, .dict [], some (.ref p)) :: (ts ++ slots M ρ2 σ)) H2 := s2.w.drop1.drop1
            have w4 := w3.redictK (kvs' := [(κ, v2)]) (ds' := [(kD κ, d2)]) ep fun _ => .cons r2 .nil
            exact kk (.ref p) _ F2 (s2.to w4) trivial fun a z => hF2 a (hF1 a z), fun _ z => nomatch z⟩
theorem TO.dict0K {pos : Pos} : TO X P pv M W (.Dict [] [] pos) (.tm .dK) (fun ρ => .ok (.dict [], ρ)) :=
  ⟨pe_dnewK.imp fun σ H Q ⟨B, G, F, ρ, ts, s, kk⟩ => fun p hp => kk (.ref p) _ F (s.to (World.dK0 s.w hp)) trivial fun _ z => z, fun _ z => nomatch z⟩
theorem TO.dict0T {pos : Pos} : TO X P pv M W (.Dict [] [] pos) (.tm .dT) (fun ρ => .ok (.dict [], ρ)) :=
  ⟨pe_dnewT.imp fun σ H Q ⟨B, G, F, ρ, ts, s, kk⟩ => fun p hp => kk (.ref p) _ F (s.to (World.dT0 s.w hp)) trivial fun _ z => z, fun _ z => nomatch z⟩
end
end Z

set_option maxRecDepth 100000
set_option maxHeartbeats 1000000
namespace Z
open PySem PySem.Spec PyProof.Rows L2

section
variable {X : Cx} {P : Par2} {pv : List (Nat × V)} {M Mt Mn : List Md} {W : WX} {k : Nat} {J : Sg}
theorem tO_mono {o : Om} {f : Fn'} {σ : L2.St} {H : Hp} {Q Q' : VK} (h : tO P pv M o W f σ H Q) (k : ∀ v H', Q v H' → Q' v H') : tO P pv M o W f σ H Q' := by
  obtain ⟨B, G, F, ρ, ts, s, kk⟩ := h
  refine ⟨B, G, F, ρ, ts, s, ?_⟩
  cases e1 : f ρ with
  | bad => rw [e1] at kk; exact kk
  | exc c xs ρ' => rw [e1] at kk; exact kk
  | ok x =>
    rw [e1] at kk
    exact fun v H' F' s' hh hF => k v H' (kk v H' F' s' hh hF)
/-! ### list(range(..)), tuple(range(..)) -/
noncomputable def rgOk (a b : Int) : Bool := okR a && okR b && cb ((b - a).toNat ≤ 2 ^ 24)
theorem rgOk_of {a b : Int} (h : rgOk a b = true) : RgOk a b := by
  simp only [rgOk, okR, Bool.and_eq_true, decide_eq_true_eq, cb_eq] at h
  exact ⟨h.1.1.1, h.1.1.2, h.1.2.1, h.1.2.2, h.2⟩
theorem RFs.rg {P : Par} {H : Hp} {F : Addr → Prop} (a b : Int) : RFs P H F (rgV a b) (rngD a b) := by
  unfold rgV rngD
  have := RFs.of_ints (P := P) (H := H) (F := F) ((List.range (b - a).toNat).map fun (i : Nat) => a + (i : Int))
  rw [List.map_map, List.map_map] at this
  exact this
noncomputable def rgL (mk : List D → D) : List D → Option D
  | [.int j] => if rgOk 0 j = true then some (mk (rngD 0 j)) else none
  | [.int i, .int j] => if rgOk i j = true then some (mk (rngD i j)) else none
  | _ => none
theorem rg1_run {a : Expr} {fa : Fn'} (ha : TO X P pv M W a (.tm .frz) fa) {mk : List D → D} {m : Md} {σ : L2.St} {H : Hp} {Q : VK} {r : Int → Int → Hp → Prop} (h : tO P pv M (.tm m) W (mapA (rgL mk) (consA fa nilA)) σ H Q)
    (hr : ∀ (B : Hp) (G F : Addr → Prop) (es : List Ent) (j : Int) (H' : Hp), World P.toPar B G F es H' → rgOk 0 j = true → Res P.toPar B G F es m (mk (rngD 0 j)) Q → r 0 j H') : tRg1 (tO P pv M (.tm .frz) W fa) σ H r := by
  show tO P pv M (.tm .frz) W fa σ H fun x H1 => ∃ n, x = .int n ∧ r 0 n H1
  refine one_view (g := fun d => rgL mk [d]) ha rfl (m := m) (Q := Q) ?_ fun B G F es d z v H' w rv hg kq => ?_
  · obtain ⟨B, G, F, ρ, ts, s, kk⟩ := h
    refine ⟨B, G, F, ρ, ts, s, ?_⟩
    unfold mapA consA nilA at kk
    unfold un1
    cases e1 : fa ρ with
    | bad => rw [e1] at kk; exact kk
    | exc c xs ρ' => rw [e1] at kk; exact kk
    | ok x => rw [e1] at kk; exact kk
  · cases rv <;> simp only [rgL, reduceCtorEq] at hg
    split at hg
    · cases hg
      exact ⟨_, rfl, hr B G F es _ H' w (by assumption) kq⟩
    · cases hg
theorem rg2_run {a b : Expr} {fa fb : Fn'} (ha : TO X P pv M W a (.tm .frz) fa) (hb : TO X P pv M W b (.tm .frz) fb) {mk : List D → D} {m : Md} {σ : L2.St} {H : Hp} {Q : VK} {r : Int → Int → Hp → Prop} (h : tO P pv M (.tm m) W (mapA (rgL mk) (consA fa (consA fb nilA))) σ H Q)
    (hr : ∀ (B : Hp) (G F : Addr → Prop) (es : List Ent) (i j : Int) (H' : Hp), World P.toPar B G F es H' → rgOk i j = true → Res P.toPar B G F es m (mk (rngD i j)) Q → r i j H') : tRg2 (tO P pv M (.tm .frz) W fa) (tO P pv M (.tm .frz) W fb) σ H r := by
  have h2 : tO P pv M (.tm m) W (bin2 (fun d e => rgL mk [d, e]) fa fb) σ H Q := by
    obtain ⟨B, G, F, ρ, ts, s, kk⟩ := h
    refine ⟨B, G, F, ρ, ts, s, ?_⟩
    have kk : Post P B G F pv M σ ts (.tm m) W Q ((fa ρ >>= fun x => (fb x.2 >>= fun y => R.ok ([], y.2) >>= fun z => R.ok (y.1 :: z.1, z.2)) >>= fun y => R.ok (x.1 :: y.1, y.2)) >>= fun x => ofO ((rgL mk x.1).map fun z => (z, x.2))) := kk
    unfold bin2
    cases e1 : fa ρ with
    | bad => rw [e1] at kk; exact kk
    | exc c xs ρ' => rw [e1] at kk; exact kk
    | ok x =>
      rw [e1] at kk
      have kk : Post P B G F pv M σ ts (.tm m) W Q ((fb x.2 >>= fun y => R.ok ([x.1, y.1], y.2)) >>= fun x => ofO ((rgL mk x.1).map fun z => (z, x.2))) := by
        revert kk
        show Post P B G F pv M σ ts (.tm m) W Q ((((fb x.2 >>= fun y => R.ok ([y.1], y.2)) >>= fun y => R.ok (x.1 :: y.1, y.2))) >>= fun x => ofO ((rgL mk x.1).map fun z => (z, x.2))) → _
        cases fb x.2 <;> exact id
      show Post P B G F pv M σ ts (.tm m) W Q (fb x.2 >>= fun y => ofO ((rgL mk [x.1, y.1]).map fun z => (z, y.2)))
      revert kk
      cases fb x.2 <;> exact id
  have h3 := two_ops ha hb (fun i z => nomatch z) rfl rfl h2
  have h3 : tO P pv M (.tm .frz) W fa σ H fun v1 H1 => tO P pv M (.tm .frz) W fb σ H1 fun v2 H2 => rV P.toPar (fun d e => rgL mk [d, e]) m v1 v2 H2 Q := h3
  show tO P pv M (.tm .frz) W fa σ H fun x H1 => tO P pv M (.tm .frz) W fb σ H1 fun y H2 => ∃ i j, x = .int i ∧ y = .int j ∧ r i j H2
  refine tO_mono h3 fun v1 H1 h4 => tO_mono h4 fun v2 H2 ⟨B, G, F, es, x, y, z, w, r1, r2, hg, kq⟩ => ?_
  cases r1 <;> cases r2 <;> simp only [rgL, reduceCtorEq] at hg
  split at hg
  · cases hg
    exact ⟨_, _, rfl, rfl, hr B G F es _ _ H2 w (by assumption) kq⟩
  · cases hg
section
variable {a b : Expr} {fa fb : Fn'} {p p2 pos pos2 : Pos}
theorem TO.listRg1 (C : CtxOk X P k) (hg : Gl X "list") (hm : X.mg "list" = none) (hg2 : Gl X "range") (hm2 : X.mg "range" = none) (ha : TO X P pv M W a (.tm .frz) fa)
    (na : starEach [a] X.env = (false, eval a X.env) :: starEach [] X.env := by rfl) (na2 : starEach [.Call (.Name "range" p2) [a] [] pos2] X.env = (false, eval (.Call (.Name "range" p2) [a] [] pos2) X.env) :: starEach [] X.env := by rfl) :
    TO X P pv M W (.Call (.Name "list" p) [.Call (.Name "range" p2) [a] [] pos2] [] pos) (.tm (.lst .frz)) (mapA (rgL .list) (consA fa nilA)) :=
  ⟨(pe_listRg C.hc hg hm (prg_1 hg2 hm2 ha.pe na) na2).imp fun σ H Q h => rg1_run (r := fun a b H1 => RgOk a b ∧ ∀ q, H1 q = none → Q (.ref q) (upd H1 q (.lst (rgV a b)))) ha h fun B G F es j H' w ok kq => ⟨rgOk_of ok, fun q hq => kq _ _ F (w.lst0 (RFs.rg 0 j) hq) fun _ z => z⟩, fun _ z => nomatch z⟩
theorem TO.tupRg1 (C : CtxOk X P k) (hg : Gl X "tuple") (hm : X.mg "tuple" = none) (hg2 : Gl X "range") (hm2 : X.mg "range" = none) (ha : TO X P pv M W a (.tm .frz) fa)
    (na : starEach [a] X.env = (false, eval a X.env) :: starEach [] X.env := by rfl) (na2 : starEach [.Call (.Name "range" p2) [a] [] pos2] X.env = (false, eval (.Call (.Name "range" p2) [a] [] pos2) X.env) :: starEach [] X.env := by rfl) :
    TO X P pv M W (.Call (.Name "tuple" p) [.Call (.Name "range" p2) [a] [] pos2] [] pos) (.tm .frz) (mapA (rgL .tuple) (consA fa nilA)) :=
  ⟨(pe_tupRg C.hc hg hm (prg_1 hg2 hm2 ha.pe na) na2).imp fun σ H Q h => rg1_run (r := fun a b H1 => RgOk a b ∧ ∀ q, H1 q = none → Q (.ref q) (upd H1 q (.tup (rgV a b)))) ha h fun B G F es j H' w ok kq => ⟨rgOk_of ok, fun q hq => kq _ _ F (w.tup hq (RFs.rg 0 j)) fun _ z => z⟩, fun _ z => nomatch z⟩
theorem TO.listRg2 (C : CtxOk X P k) (hg : Gl X "list") (hm : X.mg "list" = none) (hg2 : Gl X "range") (hm2 : X.mg "range" = none) (ha : TO X P pv M W a (.tm .frz) fa) (hb : TO X P pv M W b (.tm .frz) fb)
    (na : starEach [a, b] X.env = (false, eval a X.env) :: starEach [b] X.env := by rfl) (nb : starEach [b] X.env = (false, eval b X.env) :: starEach [] X.env := by rfl) (na2 : starEach [.Call (.Name "range" p2) [a, b] [] pos2] X.env = (false, eval (.Call (.Name "range" p2) [a, b] [] pos2) X.env) :: starEach [] X.env := by rfl) (hp : (backTo pos2 (starEach [b] X.env)).any (·.1) = false := by rfl) :
    TO X P pv M W (.Call (.Name "list" p) [.Call (.Name "range" p2) [a, b] [] pos2] [] pos) (.tm (.lst .frz)) (mapA (rgL .list) (consA fa (consA fb nilA))) :=
  ⟨(pe_listRg C.hc hg hm (prg_2 hg2 hm2 ha.pe hb.pe na nb hp) na2).imp fun σ H Q h => rg2_run (r := fun a b H1 => RgOk a b ∧ ∀ q, H1 q = none → Q (.ref q) (upd H1 q (.lst (rgV a b)))) ha hb h fun B G F es i j H' w ok kq => ⟨rgOk_of ok, fun q hq => kq _ _ F (w.lst0 (RFs.rg i j) hq) fun _ z => z⟩, fun _ z => nomatch z⟩
end
end
end Z

set_option maxRecDepth 100000
set_option maxHeartbeats 1000000
namespace Z
open PySem PySem.Spec PyProof.Rows L2

/-! ### the deck of draws: a dict of a list and two numbers -/
def deckKs (b : Addr) (m t : Int) : List (Key × V) := [(.inr "great", .ref b), (.inr "mixed", .int m), (.inr "turns", .int t)]
def deckV (g : List Int) (m t : Int) : D := .tuple [.list (g.map PyData.int), .int m, .int t]
def deckRep (H : Hp) (a : Addr) (d : D) (S : List Addr) : Prop := ∃ (g : List Int) (m t : Int) (b : Addr), d = deckV g m t ∧ H a = some (.dK (deckKs b m t)) ∧ H b = some (.lst (g.map V.int)) ∧ S = [a, b]
def deckP : TapeP where
  rep := deckRep
  own := fun H a d S ⟨g, m, t, b, e, ea, eb, eS⟩ c hc => by
    subst eS
    rcases List.mem_cons.mp hc with rfl | hc
    · exact ⟨_, ea, trivial⟩
    · have : c = b := by simpa using hc
      subst this
      exact ⟨_, eb, trivial⟩
  frame := fun H H' a d S ⟨g, m, t, b, e, ea, eb, eS⟩ k => by
    subst eS
    exact ⟨g, m, t, b, e, by rw [k a (by simp)]; exact ea, by rw [k b (by simp)]; exact eb, rfl⟩
section
variable {P : Par} {B H : Hp} {G F : Addr → Prop} {es : List Ent}
/-- the tape on top is turned, its footprint stays -/
theorem World.retape {a : Addr} {d d' : D} {H' : Hp} (w : World P B G F ((.tape, d, some (.ref a)) :: es) H)
    (hr : ∀ S, P.tp.rep H a d S → S.Nodup → P.tp.rep H' a d' S ∧ ∀ b, b ∉ S → H' b = H b) : World P B G F ((.tape, d', some (.ref a)) :: es) H' := by
  obtain ⟨S, h, nd, k⟩ := w.ents
  cases h with
  | cons x r =>
    rename_i Sa Sr
    cases x with
    | held x =>
      cases x with
      | tape rp =>
        obtain ⟨rp', same⟩ := hr _ rp (List.nodup_append.mp nd).1
        have ka : ∀ b ∈ Sa, ¬ F b ∧ ¬ G b ∧ B b = none := fun b hb => k b (List.mem_append_left _ hb)
        have own := P.tp.own _ _ _ _ rp
        have st : Stay F H H' := fun b o e c => by
          by_cases z : b ∈ Sa
          · obtain ⟨o', e', mu⟩ := own b z
            rw [e] at e'
            cases e'
            rcases c with c | c
            · exact absurd c (ka b z).1
            · exact absurd mu c
          · rw [same b z]
            exact e
        refine ⟨⟨Sa ++ Sr, .cons (.held (.tape rp')) (r.stay st (fun _ z => z) fun b hb => same b fun z => (List.nodup_append.mp nd).2.2 b z b hb rfl), nd, k⟩, w.fG, fun b z => ?_, w.gB, fun b o e => ?_⟩
        · obtain ⟨o, e⟩ := w.fH b z
          exact ⟨o, st b o e (.inl z)⟩
        · rw [same b fun z => by rw [(ka b z).2.2] at e; cases e]
          exact w.base b o e
/-- what the tape on top is -/
theorem World.tapeAt {d : D} {v : V} (w : World P B G F ((.tape, d, some v) :: es) H) : ∃ a S, v = .ref a ∧ P.tp.rep H a d S ∧ S.Nodup := by
  obtain ⟨S, h, nd, k⟩ := w.ents
  cases h with
  | cons x r =>
    cases x with
    | held x =>
      cases x with
      | tape rp => exact ⟨_, _, rfl, rp, (List.nodup_append.mp nd).1⟩
/-- a new list and a new dict become a deck -/
theorem World.joinDeck {a b : Addr} {m t : Int} (hP : P.tp = deckP) (w : World P B G F ((.lst .frz, .list [], some (.ref b)) :: (.dK, .dict [], some (.ref a)) :: es) H) :
    H a = some (.dK []) ∧ World P B G F ((.tape, deckV [] m t, some (.ref a)) :: es) (upd H a (.dK (deckKs b m t))) := by
  obtain ⟨S, h, nd, k⟩ := w.ents
  cases h with
  | cons x r =>
    rename_i Sa Sr
    cases r with
    | cons y r =>
      rename_i Sb Sq
      cases x with
      | held x =>
        cases y with
        | held y =>
          cases x with
          | lst eb rs =>
            cases rs with
            | nil =>
              cases y with
              | dK ea rk =>
                cases rk
                have ka := k a (by simp)
                have nd1 : (b :: a :: Sq).Nodup := nd
                have hba : b ≠ a := fun z => by subst z; simp at nd1
                have naq : a ∉ Sq := (List.nodup_cons.mp (List.nodup_cons.mp nd1).2).1
                have nbq : b ∉ Sq := fun z => (List.nodup_cons.mp nd1).1 (List.mem_cons_of_mem _ z)
                have rp : P.tp.rep (upd H a (.dK (deckKs b m t))) a (deckV [] m t) [a, b] := by
                  rw [hP]
                  exact ⟨[], m, t, b, rfl, upd_same, by rw [upd_ne hba]; exact eb, rfl⟩
                have st : Stay F H (upd H a (.dK (deckKs b m t))) := Stay.write ea trivial ka.1
                refine ⟨ea, ⟨[a, b] ++ Sq, .cons (.held (.tape rp)) (r.stay st (fun _ z => z) fun c hc => upd_ne fun z => naq (z ▸ hc)), ?_, fun c hc => k c ?_⟩, w.fG, fun c z => ?_, w.gB, fun c o e => ?_⟩
                · exact List.nodup_cons.mpr ⟨fun z => by
                    rcases List.mem_cons.mp z with z | z
                    · exact hba z.symm
                    · exact naq z, List.nodup_cons.mpr ⟨nbq, (List.nodup_cons.mp (List.nodup_cons.mp nd1).2).2⟩⟩
                · have hc : c ∈ a :: b :: Sq := hc
                  show c ∈ b :: a :: Sq
                  rcases List.mem_cons.mp hc with z | z
                  · rw [z]; simp
                  · rcases List.mem_cons.mp z with z | z
                    · rw [z]; simp
                    · simp [z]
                · obtain ⟨o, e⟩ := w.fH c z
                  exact ⟨o, st c o e (.inl z)⟩
                · rw [upd_ne (fun z => by subst z; rw [ka.2.2] at e; cases e)]
                  exact w.base c o e
end
section
variable {X : Cx} {P : Par2} {pv : List (Nat × V)} {M Mt Mn : List Md} {W : WX} {k : Nat} {J : Sg}
theorem room1 (C : CtxOk X P k) : X.A.units + 1 < cLine := by
  have := C.hr.un
  omega
/-- the deck of a slot -/
theorem Stt.deck {B H : Hp} {G F : Addr → Prop} {ρ : Env'} {σ : L2.St} {ts : List Ent} {i : Nat} (hP : P.tp = deckP) (s : Stt P B G F pv M ρ σ ts H) (hm : M[i]? = some .tape) :
    ∃ a b g m t, σ[i]? = some (some (.ref a)) ∧ ρ.getD i .none = deckV g m t ∧ H a = some (.dK (deckKs b m t)) ∧ H b = some (.lst (g.map V.int)) ∧ a ≠ b := by
  obtain ⟨v, e, q⟩ := s.slot hm (by decide)
  have w := take_slot s.w hm s.lr s.ls
  rw [getD_of e] at w
  obtain ⟨a, S, ev, rp, nd⟩ := w.tapeAt
  rw [hP] at rp
  obtain ⟨g, m, t, b, ed, ea, eb, eS⟩ := rp
  subst ev eS
  exact ⟨a, b, g, m, t, e, ed, ea, eb, fun z => by subst z; simp at nd⟩
theorem Stt.deckTo {B H H' : Hp} {G F : Addr → Prop} {ρ : Env'} {σ : L2.St} {ts : List Ent} {i : Nat} {a b : Addr} {g' : List Int} {m t m' t' : Int} (hP : P.tp = deckP) (s : Stt P B G F pv M ρ σ ts H) (hm : M[i]? = some .tape) (ev : σ[i]? = some (some (.ref a))) (ea : H a = some (.dK (deckKs b m t)))
    (ea' : H' a = some (.dK (deckKs b m' t'))) (eb' : H' b = some (.lst (g'.map V.int))) (same : ∀ c, c ≠ a → c ≠ b → H' c = H c) : Stt P B G F pv M (ρ.set i (deckV g' m' t')) σ ts H' := by
  have w := take_slot s.w hm s.lr s.ls
  rw [getD_of ev] at w
  have w2 := w.retape (H' := H') (d' := deckV g' m' t') fun S rp nd => by
    rw [hP] at rp ⊢
    obtain ⟨g0, m0, t0, b0, ed, e1, e2, eS⟩ := rp
    rw [ea] at e1
    have eb0 : b0 = b := by
      have : deckKs b m t = deckKs b0 m0 t0 := by
        injection e1 with e1
        injection e1
      simp [deckKs] at this
      exact this.1.symm
    subst eb0 eS
    exact ⟨⟨g', m', t', b0, rfl, ea', eb', rfl⟩, fun c hc => same c (fun z => hc (by simp [z])) fun z => hc (by simp [z])⟩
  have w4 := put_slot (d := deckV g' m' t') (by rw [getD_of ev]; exact w2) hm s.lr s.ls
  exact ⟨w4, by simpa using s.lr, s.ls, s.pv⟩
/-- deck['mixed'], deck['turns'] -/
def deckGetD (n : Str) : D → Option D
  | .tuple [.list _, .int m, .int t] => if n = "mixed" then some (.int m) else if n = "turns" then some (.int t) else none
  | _ => none
def tapeF (i : Nat) (g : D → Option D) : Fn' := fun ρ => ofO ((g (ρ.getD i .none)).map fun z => (z, ρ))
theorem TO.deckGet {o e : Expr} {i : Nat} {n : Str} {pos : Pos} (hP : P.tp = deckP) (C : CtxOk X P k) (ho : PE X o (tVar i)) (he : PE X e (tC (.str n))) (hs : NoSl e) (hm : M[i]? = some .tape := by rfl) : TO X P pv M W (.Subscript o e pos) (.tm .frz) (tapeF i (deckGetD n)) :=
  ⟨(pe_dget (room1 C) ho he hs).imp fun σ H Q ⟨B, G, F, ρ, ts, s, kk⟩ => by
    obtain ⟨a, b, g, m, t, ev, ed, ea, eb, ne⟩ := s.deck hP hm
    refine ⟨.ref a, ev, ?_⟩
    unfold tapeF at kk
    rw [ed] at kk
    by_cases h1 : n = "mixed"
    · subst h1
      refine ⟨a, .int m, rfl, .inl ⟨deckKs b m t, .inr "mixed", .inl ea, rfl, rfl⟩, ?_⟩
      exact kk (.int m) H F (s.push (.int m)) trivial fun _ z => z
    · by_cases h2 : n = "turns"
      · subst h2
        refine ⟨a, .int t, rfl, .inl ⟨deckKs b m t, .inr "turns", .inl ea, rfl, rfl⟩, ?_⟩
        exact kk (.int t) H F (s.push (.int t)) trivial fun _ z => z
      · have : deckGetD n (deckV g m t) = none := by
          show (if n = "mixed" then some (PyData.int m) else if n = "turns" then some (PyData.int t) else none) = none
          rw [if_neg h1, if_neg h2]
        rw [this] at kk
        exact kk.elim, fun _ z => nomatch z⟩
/-- deck['great'] != [] -/
def deckHasD : D → Option D
  | .tuple [.list ds, .int _, .int _] => some (.bool (!ds.isEmpty))
  | _ => none
theorem deckHas_ops {i : Nat} {σ : L2.St} {H : Hp} {Q : VK} (hP : P.tp = deckP) (C : CtxOk X P k) (hm : M[i]? = some .tape) (h : tO P pv M (.tm .frz) W (tapeF i deckHasD) σ H Q) : tOp (rNeD X.K) (tDGet (tVar i) (tC (.str "great"))) (tLst tNil) σ H Q := by
    obtain ⟨B, G, F, ρ, ts, s, kk⟩ := h
    obtain ⟨a, b, g, m, t, ev, ed, ea, eb, ne⟩ := s.deck hP hm
    refine ⟨.ref a, ev, a, .ref b, rfl, .inl ⟨deckKs b m t, .inr "great", .inl ea, rfl, rfl⟩, Nat.zero_le _, fun p hp => ?_⟩
    unfold tapeF at kk
    rw [ed] at kk
    have hbp : b ≠ p := fun z => by rw [z, hp] at eb; cases eb
    refine ⟨.list (g.map PyData.int), .list [], ?_, ?_, PySem.W.ke_shaped_ints g, by decide, ?_⟩
    · have r : RFs P.toPar (upd H p (.lst [])) F (g.map V.int) (g.map PyData.int) := RFs.of_ints g
      exact .lst (SqL.of (by rw [upd_ne hbp]; exact eb)) (by rw [C.hK]; exact r.dp (SeqAt.canLay_of_shaped (PySem.W.ke_shaped_ints g)))
    · exact .lst (SqL.of upd_same) .nil
    · have e : PyData.eqv (.list (g.map PyData.int)) (.list []) = (g.map PyData.int).isEmpty := by
        cases g <;> rfl
      rw [e]
      have s2 : Stt P B G F pv M ρ σ ts (upd H p (.lst [])) := s.to (s.w.heap_alloc hp)
      exact kk (.bl _) _ F (s2.push (.bl _)) trivial fun _ z => z
theorem TO.deckHas {o e : Expr} {i : Nat} {pos pos1 pos2 : Pos} (hP : P.tp = deckP) (C : CtxOk X P k) (ho : PE X o (tVar i)) (he : PE X e (tC (.str "great"))) (hs : NoSl e) (hm : M[i]? = some .tape := by rfl) : TO X P pv M W (.Compare (.Subscript o e pos1) [.NotEq] [.List [] pos2] pos) (.tm .frz) (tapeF i deckHasD) :=
  ⟨(pe_cmpR (op_neD (by have := C.hr.un; omega)) (pe_dget (room1 C) ho he hs) (pe_lst pa_nil) rfl).imp fun σ H Q h => deckHas_ops hP C hm h, fun _ z => nomatch z⟩
theorem tt_deckHas {o e : Expr} {i : Nat} {pos pos1 pos2 : Pos} (hP : P.tp = deckP) (C : CtxOk X P k) (ho : PE X o (tVar i)) (he : PE X e (tC (.str "great"))) (hs : NoSl e) (hm : M[i]? = some .tape := by rfl) : PT X (.Compare (.Subscript o e pos1) [.NotEq] [.List [] pos2] pos) (tT P pv M W (tapeF i deckHasD)) :=
  (pt_cmpR (op_neD (by have := C.hr.un; omega)) (pe_dget (room1 C) ho he hs) (pe_lst pa_nil) rfl).imp fun σ H Q h => deckHas_ops hP C hm (tT_tO h)
/-- deck['great'].pop() -/
def deckPopF (i : Nat) : Fn' := fun ρ => match ρ.getD i .none with
  | .tuple [.list ds, .int m, .int t] => (match ds[ds.length - 1]? with
    | some d => .ok (d, ρ.set i (.tuple [.list ds.dropLast, .int m, .int t]))
    | none => .bad)
  | _ => .bad
theorem TO.deckPop {o e : Expr} {i : Nat} {pos pos1 apos : Pos} (hP : P.tp = deckP) (C : CtxOk X P k) (ho : PE X o (tVar i)) (he : PE X e (tC (.str "great"))) (hs : NoSl e) (hm : M[i]? = some .tape := by rfl)
    (hbase : attributeBase (.Subscript o e pos1) "pop" X.env (eval (.Subscript o e pos1) X.env) = eval (.Subscript o e pos1) X.env := by rfl) (hline : (apos.endLine == pos.line) = true := by rfl) : TO X P pv M W (.Call (.Attribute (.Subscript o e pos1) "pop" apos) [] [] pos) (.tm .frz) (deckPopF i) :=
  ⟨(pe_bm0 PySem.F.plainAttrs_list PySem.F.slot_list_pop PySem.F.type_list_pop mt_pop (pe_dget (room1 C) ho he hs) hbase hline).imp fun σ H Q ⟨B, G, F, ρ, ts, s, kk⟩ => by
    obtain ⟨a, b, g, m, t, ev, ed, ea, eb, ne⟩ := s.deck hP hm
    refine ⟨.ref a, ev, a, .ref b, rfl, .inl ⟨deckKs b m t, .inr "great", .inl ea, rfl, rfl⟩, .inl ⟨rfl, _, SqL.of eb⟩, ?_⟩
    unfold deckPopF at kk
    rw [ed] at kk
    have kk : Post P B G F pv M σ ts (.tm .frz) W Q (match (g.map PyData.int)[(g.map PyData.int).length - 1]? with
      | some d => .ok (d, ρ.set i (.tuple [.list (g.map PyData.int).dropLast, .int m, .int t]))
      | none => .bad) := kk
    rw [List.length_map, List.getElem?_map] at kk
    cases eg : g[g.length - 1]? with
    | none => rw [eg] at kk; exact kk.elim
    | some x =>
      rw [eg] at kk
      have kk : Post P B G F pv M σ ts (.tm .frz) W Q (.ok (.int x, ρ.set i (.tuple [.list (g.map PyData.int).dropLast, .int m, .int t]))) := kk
      rw [← List.map_dropLast] at kk
      refine ⟨b, g.map V.int, .int x, rfl, rfl, eb, by rw [List.length_map, List.getElem?_map, eg]; rfl, ?_⟩
      rw [← List.map_dropLast]
      have s2 := s.deckTo (g' := g.dropLast) (m' := m) (t' := t) (H' := upd H b (.lst (g.dropLast.map V.int))) hP hm ev ea (by rw [upd_ne ne]; exact ea) upd_same fun c h1 h2 => upd_ne h2
      exact kk (.int x) _ F (s2.push (.int x)) trivial fun _ z => z, fun _ z => nomatch z⟩
/-- what is laid aside stays as it is -/
theorem World.aside {P : Par} {B H : Hp} {G F : Addr → Prop} {as rest : List Ent} (w : World P B G F (as ++ rest) H) :
    ∃ B' G', World P B' G' F as H ∧ (∃ S, REs P H F rest S ∧ ∀ c ∈ S, B' c = H c) ∧ ∀ F' bs H', World P B' G' F' bs H' → (∀ a, F a → F' a) → World P B G F' (bs ++ rest) H' := by
  obtain ⟨S, h, nd, k⟩ := w.ents
  obtain ⟨S1, S2, rfl, h1, h2⟩ := h.split
  have nd' := List.nodup_append.mp nd
  have own1 := h1.own
  have own2 := h2.own
  have s2 : ∀ a ∈ S2, a ∉ S1 := fun a ha z => nd'.2.2 a z a ha rfl
  refine ⟨fun a => if a ∈ S1 then none else H a, fun a => a ∈ S2 ∨ G a, ⟨⟨S1, h1, nd'.1, fun a ha => ?_⟩, fun a fa => ?_, w.fH, fun a g => ?_, fun a o e => ?_⟩, ⟨S2, h2, fun c hc => if_neg (s2 c hc)⟩, fun F' bs H' w' hF => ?_⟩
  · have q := k a (List.mem_append_left _ ha)
    exact ⟨q.1, fun g => g.elim (fun z => nd'.2.2 a ha a z rfl) q.2.1, if_pos ha⟩
  · intro g
    rcases g with g | g
    · exact (k a (List.mem_append_right _ g)).1 fa
    · exact w.fG a fa g
  · rcases g with g | g
    · obtain ⟨o, e, _⟩ := own2 a g
      exact ⟨o, (if_neg fun z => nd'.2.2 a z a g rfl).trans e⟩
    · obtain ⟨o, e⟩ := w.gB a g
      exact ⟨o, (if_neg fun z => by have := (k a (List.mem_append_left _ z)).2.2; rw [e] at this; cases this).trans (w.base a o e)⟩
  · by_cases z : a ∈ S1
    · have e' : (none : Option HO) = some o := (if_pos z).symm.trans e
      cases e'
    · exact (if_neg z).symm.trans e
  · obtain ⟨S', h', nd2, k'⟩ := w'.ents
    have keep : ∀ a o, a ∉ S1 → H a = some o → H' a = some o := fun a o z e => w'.base a o ((if_neg z).trans e)
    have st : Stay F H H' := fun a o e c => by
      by_cases z : a ∈ S1
      · obtain ⟨o', e', mu⟩ := own1 a z
        rw [e] at e'; cases e'
        rcases c with c | c
        · exact absurd c (k a (List.mem_append_left _ z)).1
        · exact absurd mu c
      · exact keep a o z e
    have h2' := h2.stay st hF fun a ha => by
      obtain ⟨o, e, _⟩ := own2 a ha
      rw [e]
      exact keep a o (s2 a ha) e
    have bk : ∀ a, B a ≠ none → a ∉ S1 := fun a nb z => nb (k a (List.mem_append_left _ z)).2.2
    refine ⟨⟨S' ++ S2, h'.append h2', List.nodup_append.mpr ⟨nd2, nd'.2.1, fun a ha b hb e => ?_⟩, fun a ha => ?_⟩, fun a fa g => w'.fG a fa (.inr g), w'.fH, w.gB, fun a o e => keep a o (bk a (by rw [e]; simp)) (w.base a o e)⟩
    · subst e
      exact (k' a ha).2.1 (.inl hb)
    · rcases List.mem_append.mp ha with ha | ha
      · have q := k' a ha
        refine ⟨q.1, fun g => q.2.1 (.inr g), ?_⟩
        cases e : B a with
        | none => rfl
        | some o =>
          have q3 := q.2.2
          have e3 : (if a ∈ S1 then none else H a) = some o := (if_neg (bk a (by rw [e]; simp))).trans (w.base a o e)
          rw [e3] at q3; cases q3
      · have q := k a (List.mem_append_right _ ha)
        exact ⟨fun fa => w'.fG a fa (.inl ha), q.2⟩
/-- deck['great'].append(x) -/
def deckAppK (i : Nat) (ρ : Env') : D → D → R Fl
  | .tuple [.list ds, .int m, .int t], .int y => if ds.length < sizeLine then .ok (.nx (ρ.set i (.tuple [.list (ds ++ [.int y]), .int m, .int t]))) else .bad
  | _, _ => .bad
def deckAppF (i : Nat) (fe : Fn') : FnS := fun ρ => fe ρ >>= fun x => deckAppK i x.2 (ρ.getD i .none) x.1
theorem st_deckApp {o e a : Expr} {i : Nat} {fe : Fn'} {pos pos1 apos spos : Pos} (hP : P.tp = deckP) (C : CtxOk X P k) (ho : PE X o (tVar i)) (he : PE X e (tC (.str "great"))) (hsl : NoSl e) (ha : TO X P J.pv (M.set i .dead) J.W a (.tm .frz) fe) (hm : M[i]? = some .tape := by rfl) (hx : leM (M.set i .dead) J.Mx = true := by rfl)
    (hbase : attributeBase (.Subscript o e pos1) "append" X.env (eval (.Subscript o e pos1) X.env) = eval (.Subscript o e pos1) X.env := by rfl)
    (hfew : ((backTo pos (starEach [a] X.env)).all (fun x => !x.1) && (backToKw pos (keywordEach [] X.env)).all (fun x => x.1.isSome)
      && decide (([a] : List Expr).length + ([] : List Keyword).length + (if ([] : List Keyword).isEmpty then 0 else 1) < 30)) = true := by rfl)
    (hline : (apos.endLine == pos.line) = true := by rfl) (hs : starEach [a] X.env = (false, eval a X.env) :: starEach [] X.env := by rfl)
    (hsw : swapsWith (.Call (.Attribute (.Subscript o e pos1) "append" apos) [a] [] pos) none spos.line X.env = pure false := by rfl) : PS X (.Expr (.Call (.Attribute (.Subscript o e pos1) "append" apos) [a] [] pos) spos) (tS P J M M (deckAppF i fe)) :=
  (ps_expr (pe_bm PySem.F.plainAttrs_list PySem.F.slot_list_append PySem.F.type_list_append mt_append (pe_dget (room1 C) ho he hsl) (pa_cons ha.pe pa_nil hs) hbase hfew hline hs rfl) hsw).imp fun E σ H ⟨B, G, F, ρ, ts, s, kk⟩ => by
    obtain ⟨da, b, g, m, t, ev, ed, ea, eb, ne⟩ := s.deck hP hm
    have w1 := take_slot s.w hm s.lr s.ls
    rw [getD_of ev, ed] at w1
    have w2 : World P.toPar B G F ((ts ++ slots (M.set i .dead) ρ σ) ++ [(.tape, deckV g m t, some (.ref da))]) H := w1.perm (List.perm_append_comm (l₁ := [_]))
    obtain ⟨B', G', w3, ⟨S, hS, same⟩, back⟩ := w2.aside
    have s3 : Stt P B' G' F J.pv (M.set i .dead) ρ σ ts H := ⟨w3, by simpa using s.lr, by simpa using s.ls, s.pv⟩
    have hab : B' da = H da ∧ B' b = H b := by
      cases hS with
      | cons x r =>
        cases x with
        | held x =>
          cases x with
          | tape rp =>
            rw [hP] at rp
            obtain ⟨g0, m0, t0, b0, e0, e1, e2, eS⟩ := rp
            subst eS
            rw [ea] at e1
            have eb0 : b0 = b := by
              have : deckKs b m t = deckKs b0 m0 t0 := by
                injection e1 with e1
                injection e1
              simp [deckKs] at this
              exact this.1.symm
            subst eb0
            exact ⟨same _ (by simp), same _ (by simp)⟩
    refine ⟨.ref da, ev, da, .ref b, rfl, .inl ⟨deckKs b m t, .inr "great", .inl ea, rfl, rfl⟩, .inl ⟨rfl, _, SqL.of eb⟩, B', G', F, ρ, ts, s3, ?_⟩
    have kk : PostS P J B G F ts M E (fe ρ >>= fun x => deckAppK i x.2 (ρ.getD i .none) x.1) := kk
    rw [ed] at kk
    -- back to the frame's own world
    have home : ∀ {F' : Addr → Prop} {ts' : List Ent} {ρ' : Env'} {H' : Hp}, Stt P B' G' F' J.pv (M.set i .dead) ρ' σ ts' H' → (∀ a, F a → F' a) → H' da = some (.dK (deckKs b m t)) ∧ H' b = some (.lst (g.map V.int)) ∧ Stt P B G F' J.pv (M.set i .dead) ρ' σ ts' H' ∧ Stt P B G F' J.pv M (ρ'.set i (deckV g m t)) σ ts' H' := fun {F' ts' ρ' H'} s' hF => by
      have w4 := back F' _ H' s'.w hF
      have w5 : World P.toPar B G F' ((.tape, deckV g m t, some (.ref da)) :: (ts' ++ slots (M.set i .dead) ρ' σ)) H' := w4.perm (List.perm_append_comm (l₂ := [_]))
      have l1 : ρ'.length = M.length := by simpa using s'.lr
      have l2 : σ.length = M.length := by simpa using s'.ls
      refine ⟨s'.w.base da _ (hab.1.trans ea), s'.w.base b _ (hab.2.trans eb), ⟨w5.drop1, s'.lr, s'.ls, s'.pv⟩, ?_⟩
      have w6 := put_slot (i := i) (M := M) (ρ := ρ') (σ := σ) (d := deckV g m t) (by rw [getD_of ev]; exact w5) hm l1 l2
      exact ⟨w6, by simpa using l1, l2, s'.pv⟩
    cases e1 : fe ρ with
    | bad => rw [e1] at kk; exact kk.elim
    | exc c xs ρ' =>
      rw [e1] at kk
      exact fun cls dx H' F' s' hx' hF' => kk cls dx σ H' F' ((home s' hF').2.2.1.le hx) hx' hF'
    | ok x =>
      obtain ⟨d, ρ1⟩ := x
      rw [e1] at kk
      intro v H1 F1 s1 _ hF1
      have s1 : Stt P B' G' F1 J.pv (M.set i .dead) ρ1 σ ((.frz, d, some v) :: ts) H1 := s1
      have r1 := s1.w.rf_frz (d := d) (v := v) List.mem_cons_self
      obtain ⟨ea1, eb1, _, s2⟩ := home s1 hF1
      cases r1 with
      | int y =>
        have kk : PostS P J B G F ts M E (if (g.map PyData.int).length < sizeLine then .ok (.nx (ρ1.set i (.tuple [.list (g.map PyData.int ++ [.int y]), .int m, .int t]))) else .bad) := kk
        by_cases hz : (g.map PyData.int).length < sizeLine
        · rw [if_pos hz] at kk
          refine ⟨b, g.map V.int, .int y, rfl, rfl, eb1, by simpa using hz, ?_⟩
          have s3 := s2.deckTo (g' := g ++ [y]) (m' := m) (t' := t) (H' := upd H1 b (.lst (g.map V.int ++ [.int y]))) hP hm ev ea1 (by rw [upd_ne ne]; exact ea1) (by rw [upd_same, List.map_append]; rfl) fun c h1 h2 => upd_ne h2
          rw [List.set_set] at s3
          have e4 : deckV (g ++ [y]) m t = .tuple [.list (g.map PyData.int ++ [.int y]), .int m, .int t] := by
            unfold deckV
            rw [List.map_append]; rfl
          rw [e4] at s3
          exact kk σ _ F1 s3.drop1 hF1
        · rw [if_neg hz] at kk; exact kk.elim
      | _ => exact kk.elim
/-- deck['mixed'] = e, deck['turns'] = e -/
def deckSetK (i : Nat) (n : Str) (ρ : Env') : D → D → R Fl
  | .tuple [.list ds, .int m, .int t], .int y => if n = "mixed" then .ok (.nx (ρ.set i (.tuple [.list ds, .int y, .int t]))) else if n = "turns" then .ok (.nx (ρ.set i (.tuple [.list ds, .int m, .int y]))) else .bad
  | _, _ => .bad
def deckSetF (i : Nat) (n : Str) (fe : Fn') : FnS := fun ρ => fe ρ >>= fun x => deckSetK i n x.2 (x.2.getD i .none) x.1
theorem st_deckSet {o e a : Expr} {i : Nat} {n : Str} {fe : Fn'} {pos pos1 : Pos} (hP : P.tp = deckP) (C : CtxOk X P k) (ha : TO X P J.pv M J.W a (.tm .frz) fe) (ho : PE X o (tVar i)) (he : PE X e (tC (.str n))) (hm : M[i]? = some .tape := by rfl) (hx : leM M J.Mx = true := by rfl)
    (hs : swapsWith a (some (.Subscript o e pos1)) pos.line X.env = pure false := by rfl) : PS X (.Assign [.Subscript o e pos1] a pos) (tS P J M M (deckSetF i n fe)) :=
  (ps_dput (room1 C) ho he ha.pe hs).imp fun E σ H ⟨B, G, F, ρ, ts, s, kk⟩ => by
    have kk : PostS P J B G F ts M E (fe ρ >>= fun x => deckSetK i n x.2 (x.2.getD i .none) x.1) := kk
    refine ⟨B, G, F, ρ, ts, s, ?_⟩
    cases e1 : fe ρ with
    | bad => rw [e1] at kk; exact kk.elim
    | exc c xs ρ' =>
      rw [e1] at kk
      exact fun cls dx H' F' s' hx' hF' => kk cls dx σ H' F' (s'.le hx) hx' hF'
    | ok x =>
      obtain ⟨d, ρ1⟩ := x
      rw [e1] at kk
      intro v H1 F1 s1 _ hF1
      have s1 : Stt P B G F1 J.pv M ρ1 σ ((.frz, d, some v) :: ts) H1 := s1
      obtain ⟨da, b, g, m, t, ev, ed, ea, eb, ne⟩ := s1.deck hP hm
      have kk : PostS P J B G F ts M E (deckSetK i n ρ1 (ρ1.getD i .none) d) := kk
      rw [ed] at kk
      have r1 := s1.w.rf_frz (d := d) (v := v) List.mem_cons_self
      cases r1 with
      | int y =>
        have kk : PostS P J B G F ts M E (if n = "mixed" then .ok (.nx (ρ1.set i (deckV g y t))) else if n = "turns" then .ok (.nx (ρ1.set i (deckV g m y))) else .bad) := kk
        refine ⟨.ref da, ev, da, ?_⟩
        by_cases h1 : n = "mixed"
        · subst h1
          rw [if_pos rfl] at kk
          have s3 := s1.deckTo (g' := g) (m' := y) (t' := t) (H' := upd H1 da (.dK (deckKs b y t))) hP hm ev ea upd_same (by rw [upd_ne (Ne.symm ne)]; exact eb) fun c h1 h2 => upd_ne h1
          exact ⟨_, rfl, DPut.k (k := .inr "mixed") (v := .int y) ea (by show 3 < sizeLine; decide), kk σ _ F1 s3.drop1 hF1⟩
        · rw [if_neg h1] at kk
          by_cases h2 : n = "turns"
          · subst h2
            rw [if_pos rfl] at kk
            have s3 := s1.deckTo (g' := g) (m' := m) (t' := y) (H' := upd H1 da (.dK (deckKs b m y))) hP hm ev ea upd_same (by rw [upd_ne (Ne.symm ne)]; exact eb) fun c h1 h2 => upd_ne h1
            exact ⟨_, rfl, DPut.k (k := .inr "turns") (v := .int y) ea (by show 3 < sizeLine; decide), kk σ _ F1 s3.drop1 hF1⟩
          · rw [if_neg h2] at kk; exact kk.elim
      | _ => exact kk.elim
/-- {'great': [], 'mixed': e, 'turns': 0} -/
def deckNewF (fe : Fn') : Fn' := fun ρ => fe ρ >>= fun x => match x.1 with
  | .int m => .ok (deckV [] m 0, x.2)
  | _ => .bad
theorem TO.deckNew {e1 e2 e3 ea ez : Expr} {fe : Fn'} {pos pos1 : Pos} (hP : P.tp = deckP) (he1 : PE X e1 (tC (.str "great"))) (he2 : PE X e2 (tC (.str "mixed"))) (he3 : PE X e3 (tC (.str "turns"))) (ha : TO X P pv M W ea (.tm .frz) fe) (hz : PE X ez (tC (.int 0))) :
    TO X P pv M W (.Dict [some e1, some e2, some e3] [.List [] pos1, ea, ez] pos) (.tm .tape) (deckNewF fe) :=
  ⟨(pe_disp (pps_cons he1 (pe_lst pa_nil) (pps_cons he2 ha.pe (pps_cons he3 hz pps_nil))) rfl rfl (by simp) (show 3 ≤ 15 by decide)).imp fun σ H Q ⟨B, G, F, ρ, ts, s, kk⟩ => by
    intro p hp
    have s0 : Stt P B G F pv M ρ σ ((.dK, .dict [], some (.ref p)) :: ts) (upd H p (.dK [])) := s.to (World.dK0 s.w hp)
    refine ⟨Nat.zero_le _, fun b hb => ?_⟩
    have s1 : Stt P B G F pv M ρ σ ((.lst .frz, .list [], some (.ref b)) :: (.dK, .dict [], some (.ref p)) :: ts) (upd (upd H p (.dK [])) b (.lst [])) := s0.to (World.lst0 (vs := []) s0.w .nil hb)
    refine ⟨B, G, F, ρ, _, s1, ?_⟩
    have kk : Post P B G F pv M σ ts (.tm .tape) W Q (fe ρ >>= fun x => match x.1 with | .int m => .ok (deckV [] m 0, x.2) | _ => .bad) := kk
    cases e1 : fe ρ with
    | bad => rw [e1] at kk; exact kk
    | exc c xs ρ' =>
      rw [e1] at kk
      exact fun cls dx H' F' s' hx hF' => kk cls dx H' F' s'.drop1.drop1 hx hF'
    | ok x =>
      obtain ⟨d, ρ1⟩ := x
      rw [e1] at kk
      intro v H1 F1 s2 _ hF1
      have s2 : Stt P B G F1 pv M ρ1 σ ((.frz, d, some v) :: (.lst .frz, .list [], some (.ref b)) :: (.dK, .dict [], some (.ref p)) :: ts) H1 := s2
      have r1 := s2.w.rf_frz (d := d) (v := v) List.mem_cons_self
      cases r1 with
      | int m =>
        obtain ⟨ep, w4⟩ := World.joinDeck (m := m) (t := 0) hP s2.drop1.w
        exact ⟨ep, [(.inr "great", .ref b), (.inr "mixed", .int m), (.inr "turns", .int 0)], rfl, (show 3 ≤ 15 by decide), kk (.ref p) _ F1 (s2.to w4) trivial hF1⟩
      | _ => exact kk.elim, fun _ z => nomatch z⟩
end
end Z

set_option maxRecDepth 100000
set_option maxHeartbeats 1000000
namespace Z
open PySem PySem.Spec PyProof.Rows L2

/-! ### the pot of draws: a dict of a list and two numbers -/
def potKs (b : Addr) (m t : Int) : List (Key × V) := [(.inr "great", .ref b), (.inr "stirred", .int m), (.inr "turn", .int t)]
def potV (g : List Int) (m t : Int) : D := .tuple [.list (g.map PyData.int), .int m, .int t]
def potRep (H : Hp) (a : Addr) (d : D) (S : List Addr) : Prop := ∃ (g : List Int) (m t : Int) (b : Addr), d = potV g m t ∧ H a = some (.dK (potKs b m t)) ∧ H b = some (.lst (g.map V.int)) ∧ S = [a, b]
def potP : TapeP where
  rep := potRep
  own := fun H a d S ⟨g, m, t, b, e, ea, eb, eS⟩ c hc => by
    subst eS
    rcases List.mem_cons.mp hc with rfl | hc
    · exact ⟨_, ea, trivial⟩
    · have : c = b := by simpa using hc
      subst this
      exact ⟨_, eb, trivial⟩
  frame := fun H H' a d S ⟨g, m, t, b, e, ea, eb, eS⟩ k => by
    subst eS
    exact ⟨g, m, t, b, e, by rw [k a (by simp)]; exact ea, by rw [k b (by simp)]; exact eb, rfl⟩
section
variable {X : Cx} {P : Par2} {pv : List (Nat × V)} {M Mt Mn : List Md} {W : WX} {k : Nat} {J : Sg}
/-- the pot of a slot -/
theorem Stt.pot {B H : Hp} {G F : Addr → Prop} {ρ : Env'} {σ : L2.St} {ts : List Ent} {i : Nat} (hP : P.tp = potP) (s : Stt P B G F pv M ρ σ ts H) (hm : M[i]? = some .tape) :
    ∃ a b g m t, σ[i]? = some (some (.ref a)) ∧ ρ.getD i .none = potV g m t ∧ H a = some (.dK (potKs b m t)) ∧ H b = some (.lst (g.map V.int)) ∧ a ≠ b := by
  obtain ⟨v, e, q⟩ := s.slot hm (by decide)
  have w := take_slot s.w hm s.lr s.ls
  rw [getD_of e] at w
  obtain ⟨a, S, ev, rp, nd⟩ := w.tapeAt
  rw [hP] at rp
  obtain ⟨g, m, t, b, ed, ea, eb, eS⟩ := rp
  subst ev eS
  exact ⟨a, b, g, m, t, e, ed, ea, eb, fun z => by subst z; simp at nd⟩
theorem Stt.potTo {B H H' : Hp} {G F : Addr → Prop} {ρ : Env'} {σ : L2.St} {ts : List Ent} {i : Nat} {a b : Addr} {g' : List Int} {m t m' t' : Int} (hP : P.tp = potP) (s : Stt P B G F pv M ρ σ ts H) (hm : M[i]? = some .tape) (ev : σ[i]? = some (some (.ref a))) (ea : H a = some (.dK (potKs b m t)))
    (ea' : H' a = some (.dK (potKs b m' t'))) (eb' : H' b = some (.lst (g'.map V.int))) (same : ∀ c, c ≠ a → c ≠ b → H' c = H c) : Stt P B G F pv M (ρ.set i (potV g' m' t')) σ ts H' := by
  have w := take_slot s.w hm s.lr s.ls
  rw [getD_of ev] at w
  have w2 := w.retape (H' := H') (d' := potV g' m' t') fun S rp nd => by
    rw [hP] at rp ⊢
    obtain ⟨g0, m0, t0, b0, ed, e1, e2, eS⟩ := rp
    rw [ea] at e1
    have eb0 : b0 = b := by
      have : potKs b m t = potKs b0 m0 t0 := by
        injection e1 with e1
        injection e1
      simp [potKs] at this
      exact this.1.symm
    subst eb0 eS
    exact ⟨⟨g', m', t', b0, rfl, ea', eb', rfl⟩, fun c hc => same c (fun z => hc (by simp [z])) fun z => hc (by simp [z])⟩
  have w4 := put_slot (d := potV g' m' t') (by rw [getD_of ev]; exact w2) hm s.lr s.ls
  exact ⟨w4, by simpa using s.lr, s.ls, s.pv⟩
/-- pot['stirred'], pot['turn'] -/
def potGetD (n : Str) : D → Option D
  | .tuple [.list _, .int m, .int t] => if n = "stirred" then some (.int m) else if n = "turn" then some (.int t) else none
  | _ => none
theorem TO.potGet {o e : Expr} {i : Nat} {n : Str} {pos : Pos} (hP : P.tp = potP) (C : CtxOk X P k) (ho : PE X o (tVar i)) (he : PE X e (tC (.str n))) (hs : NoSl e) (hm : M[i]? = some .tape := by rfl) : TO X P pv M W (.Subscript o e pos) (.tm .frz) (tapeF i (potGetD n)) :=
  ⟨(pe_dget (room1 C) ho he hs).imp fun σ H Q ⟨B, G, F, ρ, ts, s, kk⟩ => by
    obtain ⟨a, b, g, m, t, ev, ed, ea, eb, ne⟩ := s.pot hP hm
    refine ⟨.ref a, ev, ?_⟩
    unfold tapeF at kk
    rw [ed] at kk
    by_cases h1 : n = "stirred"
    · subst h1
      refine ⟨a, .int m, rfl, .inl ⟨potKs b m t, .inr "stirred", .inl ea, rfl, rfl⟩, ?_⟩
      exact kk (.int m) H F (s.push (.int m)) trivial fun _ z => z
    · by_cases h2 : n = "turn"
      · subst h2
        refine ⟨a, .int t, rfl, .inl ⟨potKs b m t, .inr "turn", .inl ea, rfl, rfl⟩, ?_⟩
        exact kk (.int t) H F (s.push (.int t)) trivial fun _ z => z
      · have : potGetD n (potV g m t) = none := by
          show (if n = "stirred" then some (PyData.int m) else if n = "turn" then some (PyData.int t) else none) = none
          rw [if_neg h1, if_neg h2]
        rw [this] at kk
        exact kk.elim, fun _ z => nomatch z⟩
/-- pot['stirred'] = e, pot['turn'] = e -/
def potSetK (i : Nat) (n : Str) (ρ : Env') : D → D → R Fl
  | .tuple [.list ds, .int m, .int t], .int y => if n = "stirred" then .ok (.nx (ρ.set i (.tuple [.list ds, .int y, .int t]))) else if n = "turn" then .ok (.nx (ρ.set i (.tuple [.list ds, .int m, .int y]))) else .bad
  | _, _ => .bad
def potSetF (i : Nat) (n : Str) (fe : Fn') : FnS := fun ρ => fe ρ >>= fun x => potSetK i n x.2 (x.2.getD i .none) x.1
theorem st_potSet {o e a : Expr} {i : Nat} {n : Str} {fe : Fn'} {pos pos1 : Pos} (hP : P.tp = potP) (C : CtxOk X P k) (ha : TO X P J.pv M J.W a (.tm .frz) fe) (ho : PE X o (tVar i)) (he : PE X e (tC (.str n))) (hm : M[i]? = some .tape := by rfl) (hx : leM M J.Mx = true := by rfl)
    (hs : swapsWith a (some (.Subscript o e pos1)) pos.line X.env = pure false := by rfl) : PS X (.Assign [.Subscript o e pos1] a pos) (tS P J M M (potSetF i n fe)) :=
  (ps_dput (room1 C) ho he ha.pe hs).imp fun E σ H ⟨B, G, F, ρ, ts, s, kk⟩ => by
    have kk : PostS P J B G F ts M E (fe ρ >>= fun x => potSetK i n x.2 (x.2.getD i .none) x.1) := kk
    refine ⟨B, G, F, ρ, ts, s, ?_⟩
    cases e1 : fe ρ with
    | bad => rw [e1] at kk; exact kk.elim
    | exc c xs ρ' =>
      rw [e1] at kk
      exact fun cls dx H' F' s' hx' hF' => kk cls dx σ H' F' (s'.le hx) hx' hF'
    | ok x =>
      obtain ⟨d, ρ1⟩ := x
      rw [e1] at kk
      intro v H1 F1 s1 _ hF1
      have s1 : Stt P B G F1 J.pv M ρ1 σ ((.frz, d, some v) :: ts) H1 := s1
      obtain ⟨da, b, g, m, t, ev, ed, ea, eb, ne⟩ := s1.pot hP hm
      have kk : PostS P J B G F ts M E (potSetK i n ρ1 (ρ1.getD i .none) d) := kk
      rw [ed] at kk
      have r1 := s1.w.rf_frz (d := d) (v := v) List.mem_cons_self
      cases r1 with
      | int y =>
        have kk : PostS P J B G F ts M E (if n = "stirred" then .ok (.nx (ρ1.set i (potV g y t))) else if n = "turn" then .ok (.nx (ρ1.set i (potV g m y))) else .bad) := kk
        refine ⟨.ref da, ev, da, ?_⟩
        by_cases h1 : n = "stirred"
        · subst h1
          rw [if_pos rfl] at kk
          have s3 := s1.potTo (g' := g) (m' := y) (t' := t) (H' := upd H1 da (.dK (potKs b y t))) hP hm ev ea upd_same (by rw [upd_ne (Ne.symm ne)]; exact eb) fun c h1 h2 => upd_ne h1
          exact ⟨_, rfl, DPut.k (k := .inr "stirred") (v := .int y) ea (by show 3 < sizeLine; decide), kk σ _ F1 s3.drop1 hF1⟩
        · rw [if_neg h1] at kk
          by_cases h2 : n = "turn"
          · subst h2
            rw [if_pos rfl] at kk
            have s3 := s1.potTo (g' := g) (m' := m) (t' := y) (H' := upd H1 da (.dK (potKs b m y))) hP hm ev ea upd_same (by rw [upd_ne (Ne.symm ne)]; exact eb) fun c h1 h2 => upd_ne h1
            exact ⟨_, rfl, DPut.k (k := .inr "turn") (v := .int y) ea (by show 3 < sizeLine; decide), kk σ _ F1 s3.drop1 hF1⟩
          · rw [if_neg h2] at kk; exact kk.elim
      | _ => exact kk.elim
end
end Z

set_option maxRecDepth 100000
set_option maxHeartbeats 1000000
namespace Z
open PySem PySem.Spec PyProof.Rows L2

/-! ### the pot's head: great = pot["great"], drawn from while there is one -/
theorem World.grow {P : Par} {B H H' : Hp} {G F : Addr → Prop} {es : List Ent} (w : World P B G F es H) (h : Same H H') : World P B G F es H' := by
  obtain ⟨S, hs, nd, k⟩ := w.ents
  refine ⟨⟨S, hs.stay (Stay.same h) (fun _ z => z) fun a ha => ?_, nd, k⟩, w.fG, fun a fa => ?_, w.gB, fun a o e => h a o (w.base a o e)⟩
  · obtain ⟨o, e, _⟩ := hs.own a ha
    rw [e]
    exact h a o e
  · obtain ⟨o, e⟩ := w.fH a fa
    exact ⟨o, h a o e⟩
theorem Stt.dead {P : Par2} {B H : Hp} {G F : Addr → Prop} {pv : List (Nat × V)} {M : List Md} {ρ : Env'} {σ : L2.St} {ts : List Ent} {d : D} {v : V} (s : Stt P B G F pv M ρ σ ts H) : Stt P B G F pv M ρ σ ((.dead, d, some v) :: ts) H := by
  obtain ⟨S, hs, nd, k⟩ := s.w.ents
  exact s.to ⟨⟨[] ++ S, .cons .dead hs, nd, k⟩, s.w.fG, s.w.fH, s.w.gB, s.w.base⟩
abbrev potMx : List Md := [.dead, .frz, .dead, .frz, .dead, .dead]
abbrev potM : List Md := [.tape, .frz, .dead, .dead, .dead, .dead]
theorem int_stt {P : Par2} {H : Hp} {n x : Int} {v0 v2 v4 v5 : Option V} : Stt P H (fun _ => False) (fun _ => False) [] potMx [.none, .int n, .none, .int x, .none, .none] [v0, some (.int n), v2, some (.int x), v4, v5] [] H :=
  ⟨⟨⟨[], .cons .dead (.cons (.held (.frz (.int n))) (.cons .dead (.cons (.held (.frz (.int x))) (.cons .dead (.cons .dead .nil))))), List.nodup_nil, fun _ h => nomatch h⟩, fun _ h => h.elim, fun _ h => h.elim, fun _ h => h.elim, fun _ _ e => e⟩, rfl, rfl, fun _ h => nomatch h⟩
theorem int_out {P : Par2} {W : WX} {H : Hp} {n x z : Int} {v0 v2 v4 v5 : Option V} {f : Fn'} {Q : VK} (hf : f [.none, .int n, .none, .int x, .none, .none] = .ok (.int z, [.none, .int n, .none, .int x, .none, .none]))
    (k : ∀ H', Same H H' → Q (.int z) H') : tO P [] potMx (.tm .frz) W f [v0, some (.int n), v2, some (.int x), v4, v5] H Q :=
  ⟨H, _, _, _, [], int_stt, by
    rw [hf]
    intro v H' F' s _ _
    have r := s.w.rf_frz (d := .int z) (v := v) List.mem_cons_self
    cases r
    exact k H' fun a o e => s.w.base a o e⟩
theorem bool_out {P : Par2} {W : WX} {H : Hp} {n x : Int} {z : Bool} {v0 v2 v4 v5 : Option V} {f : Fn'} {Q : Bool → Hp → Prop} (hf : f [.none, .int n, .none, .int x, .none, .none] = .ok (.bool z, [.none, .int n, .none, .int x, .none, .none]))
    (k : ∀ H', Same H H' → Q z H') : tT P [] potMx W f [v0, some (.int n), v2, some (.int x), v4, v5] H Q :=
  ⟨H, _, _, _, [], int_stt, by
    rw [hf]
    intro H' F' s _
    exact k H' fun a o e => s.w.base a o e⟩
noncomputable def potHeadK (ρ : Env') : D → D → R Fl
  | .tuple [.list [], .int _, .int _], _ => .ok (.nx ρ)
  | .tuple [.list (.int x :: ds), .int m, .int t], .int n => if okDiv x n = true then if ds.length < sizeLine then .ok (.ret (.int (x % n)) (ρ.set 0 (.tuple [.list (if n ≤ x then .int (x / n) :: ds else ds), .int m, .int t]))) else .bad else .bad
  | _, _ => .bad
noncomputable def potHeadF : FnS := fun ρ => potHeadK ρ (ρ.getD 0 .none) (ρ.getD 1 .none)
abbrev rIns : V → List V → Hp → VK → Prop := fun x vs H Q => ∃ (l : Addr) (xs : List V) (i : Int) (y : V), x = .ref l ∧ vs = [.int i, y] ∧ H l = some (.lst xs) ∧ xs.length < sizeLine ∧ 0 ≤ i ∧ i < 2 ^ 63 ∧
    Q .non (upd H l (.lst (xs.take i.toNat ++ [y] ++ xs.drop i.toNat)))
section
variable {X : Cx} {P : Par2} {Mn : List Md} {W : WX} {k : Nat} {J : Sg}
theorem ss_potHead {s1 c1 c5 : Stmt} {c c4 e5 e6 : Expr} {p1 p2 p3 : Pos} {rest : List Stmt} {g : FnS} (hP : P.tp = potP) (C : CtxOk X P k)
    (h1 : PS X s1 (tAsg (tDGet (tVar 0) (tC (.str "great"))) (gName 2)))
    (hc : PT X c (tTest (tOp (rNeD X.K) (tVar 2) (tLst tNil))))
    (h3 : PS X c1 (tAsg (tBM X.K "list" rPopAt (tVar 2) (tCons (tC (.int 0)) tNil)) (gName 3)))
    (h4 : PT X c4 (tT P [] potMx W (bin2 geD (rdVar 3) (rdVar 1))))
    (h5 : PE X e5 (tO P [] potMx (.tm .frz) W (bin2 fdivD (rdVar 3) (rdVar 1))) → PS X c5 (tDrop (tBM X.K "list" rIns (tVar 2) (tCons (tC (.int 0)) (tCons (tO P [] potMx (.tm .frz) W (bin2 fdivD (rdVar 3) (rdVar 1))) tNil)))))
    (a5 : TO X P [] potMx W e5 (.tm .frz) (bin2 fdivD (rdVar 3) (rdVar 1)))
    (h6 : TO X P [] potMx W e6 (.tm .frz) (bin2 modD (mapA (one intOfD) (consA (rdVar 3) nilA)) (rdVar 1)))
    (h2 : PSs X rest (tS P J potM Mn g)) (hR : leM potM J.MR = true := by rfl) (hmr : J.mr = .frz := by rfl) (hpv : J.pv.all (fun p => decide (p.1 ≠ 2) && decide (p.1 ≠ 3)) = true := by rfl) :
    PSs X (s1 :: .If c [c1, .If c4 [c5] [] p1, .Return (some e6) p2] [] p3 :: rest) (tS P J potM Mn (seqF potHeadF g)) :=
  (pss_cons h1 (pss_cons (ps_if hc (pss_cons h3 (pss_cons (ps_if h4 (pss_one (h5 a5.pe)) pss_nil) (pss_one (ps_ret h6.pe)))) pss_nil) h2)).imp fun E σ H ⟨B, G, F, ρ, ts, s, kk⟩ => by
    obtain ⟨a, b, gl, m, t, ev, ed, ea, eb, ne⟩ := s.pot hP (i := 0) rfl
    have lr := s.lr
    have ls := s.ls
    match ρ, σ, lr, ls with
    | [d0, d1, d2, d3, d4, d5], [a0, a1, a2, a3, a4, a5], _, _ =>
    have hp2 : ∀ p ∈ J.pv, p.1 ≠ 2 := fun p hp => by
      have := List.all_eq_true.mp hpv p hp
      simp at this
      exact this.1
    have hp3 : ∀ p ∈ J.pv, p.1 ≠ 3 := fun p hp => by
      have := List.all_eq_true.mp hpv p hp
      simp at this
      exact this.2
    have ev : a0 = some (.ref a) := by simpa using ev
    have ed : d0 = potV gl m t := ed
    subst ev ed
    have kk : PostS P J B G F ts Mn E (potHeadK [potV gl m t, d1, d2, d3, d4, d5] (potV gl m t) d1 >>= fun fl => match fl with | .nx ρ' => g ρ' | o => .ok o) := kk
    refine ⟨.ref a, rfl, a, .ref b, rfl, .inl ⟨potKs b m t, .inr "great", .inl ea, rfl, rfl⟩, ?_⟩
    refine ⟨.ref b, rfl, Nat.zero_le _, fun p hp => ?_⟩
    have hbp : b ≠ p := fun z => by rw [z, hp] at eb; cases eb
    have hap : a ≠ p := fun z => by rw [z, hp] at ea; cases ea
    refine ⟨.list (gl.map PyData.int), .list [], ?_, ?_, PySem.W.ke_shaped_ints gl, by decide, ?_⟩
    · have r : RFs P.toPar (upd H p (.lst [])) F (gl.map V.int) (gl.map PyData.int) := RFs.of_ints gl
      exact .lst (SqL.of (by rw [upd_ne hbp]; exact eb)) (by rw [C.hK]; exact r.dp (SeqAt.canLay_of_shaped (PySem.W.ke_shaped_ints gl)))
    · exact .lst (SqL.of upd_same) .nil
    have s2 : Stt P B G F J.pv potM [potV gl m t, d1, d2, d3, d4, d5] [some (.ref a), a1, a2, a3, a4, a5] ts (upd H p (.lst [])) := s.to (s.w.heap_alloc hp)
    have s3 : Stt P B G F J.pv potM [potV gl m t, d1, d2, d3, d4, d5] [some (.ref a), a1, some (.ref b), a3, a4, a5] ts (upd H p (.lst [])) := (s2.dead (d := d2) (v := .ref b)).store (i := 2) (by decide) hp2
    cases gl with
    | nil =>
      refine ⟨false, rfl, ?_⟩
      exact ⟨B, G, F, _, ts, s3, kk⟩
    | cons x gl =>
      refine ⟨true, rfl, ?_⟩
      have q1 : ∃ n, d1 = .int n ∧ okDiv x n = true ∧ (gl.map PyData.int).length < sizeLine := by
        cases d1 with
        | int n =>
          have kk : PostS P J B G F ts Mn E (((if okDiv x n = true then if (gl.map PyData.int).length < sizeLine then .ok (.ret (.int (x % n)) [.tuple [.list (if n ≤ x then .int (x / n) :: gl.map PyData.int else gl.map PyData.int), .int m, .int t], .int n, d2, d3, d4, d5]) else .bad else .bad) : R Fl) >>= fun fl => match fl with | .nx ρ' => g ρ' | o => .ok o) := kk
          by_cases h1 : okDiv x n = true
          · by_cases h2 : (gl.map PyData.int).length < sizeLine
            · exact ⟨n, rfl, h1, h2⟩
            · rw [if_pos h1, if_neg h2] at kk; exact kk.elim
          · rw [if_neg h1] at kk; exact kk.elim
        | _ => exact kk.elim
      obtain ⟨n, rfl, hn, hz⟩ := q1
      have kk : PostS P J B G F ts Mn E (((if okDiv x n = true then if (gl.map PyData.int).length < sizeLine then .ok (.ret (.int (x % n)) [.tuple [.list (if n ≤ x then .int (x / n) :: gl.map PyData.int else gl.map PyData.int), .int m, .int t], .int n, d2, d3, d4, d5]) else .bad else .bad) : R Fl) >>= fun fl => match fl with | .nx ρ' => g ρ' | o => .ok o) := kk
      rw [if_pos hn, if_pos hz] at kk
      have kk : ∀ v σ' H' F', Stt P B G F' J.pv J.MR [.tuple [.list (if n ≤ x then .int (x / n) :: gl.map PyData.int else gl.map PyData.int), .int m, .int t], .int n, d2, d3, d4, d5] σ' ((J.mr, .int (x % n), some v) :: ts) H' → (∀ a, F a → F' a) → E.rt v H' := kk
      have ha1 : a1 = some (.int n) := by
        obtain ⟨v, e, q⟩ := s.slot (i := 1) (m := .frz) rfl (by decide)
        have r := s.w.rf_frz q
        have r : RF P.toPar H F v (.int n) := r
        cases r
        simpa using e
      subst ha1
      have eb2 : upd H p (.lst []) b = some (.lst ((x :: gl).map V.int)) := by rw [upd_ne hbp]; exact eb
      have ea2 : upd H p (.lst []) a = some (.dK (potKs b m t)) := by rw [upd_ne hap]; exact ea
      refine ⟨.ref b, rfl, .inl ⟨rfl, _, SqL.of eb2⟩, b, (x :: gl).map V.int, 0, 0, .int x, rfl, rfl, eb2, by decide, by decide, by simp [seqIndex?], rfl, ?_⟩
      have s4 := s3.potTo (g' := gl) (m' := m) (t' := t) (H' := upd (upd H p (.lst [])) b (.lst (gl.map V.int))) hP (i := 0) rfl rfl ea2 (by rw [upd_ne ne]; exact ea2) upd_same fun c h1 h2 => upd_ne h2
      have s5 : Stt P B G F J.pv potM [potV gl m t, .int n, d2, d3, d4, d5] [some (.ref a), some (.int n), some (.ref b), some (.int x), a4, a5] ts (upd (upd H p (.lst [])) b (.lst (gl.map V.int))) := (s4.dead (d := d3) (v := .int x)).store (i := 3) (by decide) hp3
      have ea5 : upd (upd H p (.lst [])) b (.lst (gl.map V.int)) a = some (.dK (potKs b m t)) := by rw [upd_ne ne]; exact ea2
      have eb5 : upd (upd H p (.lst [])) b (.lst (gl.map V.int)) b = some (.lst (gl.map V.int)) := upd_same
      show tT P [] potMx W (bin2 geD (rdVar 3) (rdVar 1)) [some (.ref a), some (.int n), some (.ref b), some (.int x), a4, a5] (upd (upd H p (.lst [])) b (.lst (gl.map V.int))) _
      generalize upd (upd H p (.lst [])) b (.lst (gl.map V.int)) = H5 at *
      refine bool_out (z := decide (n ≤ x)) rfl fun H6 g6 => ?_
      have ea6 := g6 _ _ ea5
      have eb6 := g6 _ _ eb5
      have s6 := s5.to (s5.w.grow g6)
      have hn' := hn
      simp only [okDiv, Bool.and_eq_true, cb_eq] at hn'
      have hm : okMod x n = true := decide_eq_true hn'.1
      -- the end of it
      have fin : ∀ {H7 : Hp} {gl' : List Int}, gl'.map PyData.int = (if n ≤ x then .int (x / n) :: gl.map PyData.int else gl.map PyData.int) → Stt P B G F J.pv potM [potV gl' m t, .int n, d2, d3, d4, d5] [some (.ref a), some (.int n), some (.ref b), some (.int x), a4, a5] ts H7 → tRet (tO P [] potMx (.tm .frz) W (bin2 modD (mapA (one intOfD) (consA (rdVar 3) nilA)) (rdVar 1))) { E with nx := tS P J potM Mn g E } [some (.ref a), some (.int n), some (.ref b), some (.int x), a4, a5] H7 := fun {H7 gl'} hg s7 => by
        refine int_out (z := x % n) (by
          show (ofO ((if okMod x n = true then some (PyData.int (x % n)) else none).map fun z => (z, [PyData.none, .int n, .none, .int x, .none, .none])) : R (D × Env')) = _
          rw [if_pos hm]
          rfl) fun H8 g8 => ?_
        have s8 := s7.to (s7.w.grow g8)
        have e8 : potV gl' m t = .tuple [.list (if n ≤ x then .int (x / n) :: gl.map PyData.int else gl.map PyData.int), .int m, .int t] := by
          unfold potV
          rw [hg]
        rw [e8] at s8
        have s9 := (s8.push (.int (x % n))).le hR
        rw [← hmr] at s9
        exact kk (.int (x % n)) _ H8 F s9 fun _ z => z
      by_cases hx : n ≤ x
      · rw [if_pos (by simpa using hx)]
        show tBM X.K "list" rIns (tVar 2) _ [some (.ref a), some (.int n), some (.ref b), some (.int x), a4, a5] H6 _
        refine ⟨.ref b, rfl, .inl ⟨rfl, _, SqL.of eb6⟩, ?_⟩
        show tO P [] potMx (.tm .frz) W (bin2 fdivD (rdVar 3) (rdVar 1)) [some (.ref a), some (.int n), some (.ref b), some (.int x), a4, a5] H6 _
        refine int_out (z := x / n) (by
          show (ofO ((if okDiv x n = true then some (PyData.int (x / n)) else none).map fun z => (z, [PyData.none, .int n, .none, .int x, .none, .none])) : R (D × Env')) = _
          rw [if_pos hn]
          rfl) fun H7 g7 => ?_
        have ea7 := g7 _ _ ea6
        have eb7 := g7 _ _ eb6
        have s7 := s6.to (s6.w.grow g7)
        refine ⟨b, gl.map V.int, 0, .int (x / n), rfl, rfl, eb7, by simpa using hz, by decide, by decide, ?_⟩
        have s8 := s7.potTo (g' := (x / n) :: gl) (m' := m) (t' := t) (H' := upd H7 b (.lst (((x / n) :: gl).map V.int))) hP (i := 0) rfl rfl ea7 (by rw [upd_ne ne]; exact ea7) upd_same fun c h1 h2 => upd_ne h2
        exact fin (gl' := (x / n) :: gl) (by rw [if_pos hx]; rfl) s8
      · rw [if_neg (by simpa using hx)]
        exact fin (gl' := gl) (by rw [if_neg hx]) s6
end
end Z

set_option maxRecDepth 100000
set_option maxHeartbeats 1000000
namespace Z
open PySem PySem.Spec PyProof.Rows L2

/-! ### defs: facts, binding, bodies -/
theorem kb_of {K : PySem.W.Frag} {x qual : Str} {params : Arguments} {body : List Stmt} {scope : Scope} {kws : List (Str × V)} {f : Addr} {fd : FuncData} {ps ks : List Str} {n : Nat} {p : List Nat} (F : FunD K x qual params body scope [] kws f fd)
    (h : ∀ (kV doc pm : Value) (an : Option Addr) (cdv ct : Value) (us ws : List Value), us.length = n → ws.length = ks.length → bindArgs (PySem.W.fnOf x qual params body scope .none kV doc pm an cdv ct) ⟨us, ks.zip ws⟩ = pure (ps.zip (permL .none p (us ++ ws)))) : KB fd ps n ks p := by
  obtain ⟨oc, od, dV, kV, doc, pm, an, cdv, ct, osl, rfl, lk, hcd, hD, hK⟩ := F.ex
  intro s us ws hu hw
  rcases hD with ⟨_, rfl⟩ | ⟨e, _⟩
  · exact .of_eq (h kV doc pm an cdv ct us ws hu hw)
  · exact absurd rfl e
theorem fnT_ofD {Pr : Program} {w : PySem.World} {P : Par2} {mg : Str → Option Value} {base : Heap} {k : Nat} {x qual : Str} {params : Arguments} {body : List Stmt} {scope : Scope} {kws : List (Str × V)} {f : Addr} {fd : FuncData} {N ps : List Str} {sp : Sp} (F : FunD P.K x qual params body scope [] kws f fd) (S : FnScope N ps scope) (len : ∀ vs H Q E, sp vs H Q E → vs.length = ps.length)
    (hsys : ∃ o, base.get? sysModules = some o)
    (hbody : ∀ (cdv : Value) (A : Around) (outer : List Env) (s : Shared) (H : Hp) (vs : List V) (Q : VK) (E : XK), CtxOk (cxOf (L2.CX Pr w) Pr w P.K mg base N qual scope f cdv A outer s H E) P k → sp vs H Q E →
      ∃ t, PSs (cxOf (L2.CX Pr w) Pr w P.K mg base N qual scope f cdv A outer s H E) body t ∧ t { nx := fun _ H' => Q .non H', rt := Q } (start N vs) H) : FnT Pr w P.K mg base (k + 1) f fd ps sp := by
  obtain ⟨oc, od, dV, kV, doc, pm, an, cdv, ct, osl, rfl, lk, hcd, _, _⟩ := F.ex
  refine ⟨len, fun A outer s H args us vs Q E hr hg e0 hb r hsp => ?_⟩
  have hl := len _ _ _ _ hsp
  have kk : ∀ b o, base.get? b = some o → s.heap.get? b = some o := fun b o e => (e0.bs b o e).1
  have hkind : ∀ y ∈ ps.zip us, scope.names.lookup y.1 = some .local ∨ (scope.names.lookup y.1 = some .cell ∧ ((cellsFrom (s.heap.objs.size + 1) scope.names []).lookup y.1).isSome = true) := fun y hy =>
    (S.par y.1 (List.of_mem_zip (b := y.2) hy).1).imp id fun q => ⟨q, PySem.W.cellsFrom_some _ _ _ (.inl q)⟩
  refine codeAny_call_function hr.depth (e0.mod.kin.keeps kk _ _ lk) rfl S.co S.gen rfl (PySem.W.codeRec_of (e0.mod.kin.keeps kk) hcd) (hb _ _ _ _ ?_)
  refine wpAny_newFunctionEnv_cells S.kind hkind fun env he s1 xx => ?_
  subst he
  refine ⟨(e0.mod.nolimit.keeps kk).keeps xx.toInCall.keep, codeAny_func ?_⟩
  let X := cxOf (L2.CX Pr w) Pr w P.K mg base N qual scope f cdv A outer s H E
  obtain ⟨t, ht, hq⟩ := hbody cdv A outer s H vs Q E ⟨rfl, hsys, hg, hr.deeper _, rfl⟩ hsp
  have I : L2.Inv X [] (start N vs) H s1 := inv_start S hr.hd e0 hl r xx
  refine wpAny_mono (ht.run [] s1 (start N vs) H _ I hq) (fun fl s' hs => ?_) fun e s' hs => hs
  have fin : ∀ {σ' : L2.St} {H' : Hp} {v : V} {u : Value}, L2.Inv X [] σ' H' s' → RelV v u → Q v H' → CE outer Pr w H s Q u s' := fun J rv q => ⟨_, _, J.os, J.bare, J.base, J.hok, rv, q⟩
  match fl, hs with
  | .ret u, ⟨v, σ', H', J, rv, q⟩ => exact fin J rv q
  | .next, ⟨σ', H', J, q⟩ => exact fin (v := V.non) (u := Value.none) J rfl q
  | .brk, ⟨_, _, _, q⟩ => exact q.elim
  | .cont, ⟨_, _, _, q⟩ => exact q.elim
theorem CtxOk.nox {X : Cx} {P : Par2} {k : Nat} (C : CtxOk X P k) : CtxOk X.nox P k := ⟨C.hK, C.hs, C.hg, C.hr, C.hc⟩
/-- a body's combinator as a def's value -/
def runV (mr : Md) (np n : Nat) (c : FnS) : FnV := fun ds => match c (ds ++ List.replicate n .none) with
  | .ok (.ret d ρ) => .ok (d, ρ.take np)
  | .ok (.nx ρ) => if mr = .frz then .ok (.none, ρ.take np) else .bad
  | .exc c xs ρ => .exc c xs []
  | _ => .bad
/-- the same of a body that raises nothing -/
def runV0 (mr : Md) (np n : Nat) (c : FnS) : FnV := fun ds => match c (ds ++ List.replicate n .none) with
  | .ok (.ret d ρ) => .ok (d, ρ.take np)
  | .ok (.nx ρ) => if mr = .frz then .ok (.none, ρ.take np) else .bad
  | _ => .bad
theorem getElem_zipE : ∀ {ms : List Md} {ds : List D} {vs : List V}, ms.length = ds.length → ms.length = vs.length → zipE ms ds vs = slots ms ds (vs.map some)
  | [], [], [], _, _ => rfl
  | m :: ms, d :: ds, v :: vs, h1, h2 => by
    show (m, d, some v) :: zipE ms ds vs = (m, d, some v) :: slots ms ds (vs.map some)
    rw [getElem_zipE (by simpa using h1) (by simpa using h2)]
  | [], _ :: _, _, h, _ => by simp at h
  | [], [], _ :: _, _, h => by simp at h
  | _ :: _, [], _, h, _ => by simp at h
  | _ :: _, _ :: _, [], _, h => by simp at h
theorem slots_app : ∀ {ms ns : List Md} {ds es : List D} {σ τ : L2.St}, ms.length = ds.length → ms.length = σ.length → slots (ms ++ ns) (ds ++ es) (σ ++ τ) = slots ms ds σ ++ slots ns es τ
  | [], _, [], _, [], _, _, _ => rfl
  | m :: ms, ns, d :: ds, es, v :: σ, τ, h1, h2 => by
    show (m, d, v) :: slots (ms ++ ns) (ds ++ es) (σ ++ τ) = (m, d, v) :: (slots ms ds σ ++ slots ns es τ)
    rw [slots_app (by simpa using h1) (by simpa using h2)]
  | [], _, _ :: _, _, _, _, h, _ => by simp at h
  | [], _, [], _, _ :: _, _, _, h => by simp at h
  | _ :: _, _, [], _, _, _, h, _ => by simp at h
  | _ :: _, _, _ :: _, _, [], _, _, h => by simp at h
theorem World.deads {P : Par} {B H : Hp} {G F : Addr → Prop} : ∀ {n : Nat} {es : List Ent} {ds : List D} {σ : L2.St}, World P B G F es H → World P B G F (es ++ slots (List.replicate n .dead) ds σ) H
  | 0, es, ds, σ, w => by simpa [slots] using w
  | n + 1, es, ds, σ, w => by
    have w2 : World P B G F (es ++ slots (List.replicate n .dead) ds.tail σ.tail) H := World.deads w
    have w3 := w2.dead_cons (d := ds.headD .none) (v := σ.headD none)
    show World P B G F (es ++ (Md.dead, ds.headD .none, σ.headD none) :: slots (List.replicate n .dead) ds.tail σ.tail) H
    exact w3.perm List.perm_middle.symm
theorem start_eq {N : List Str} {vs : List V} : start N vs = vs.map some ++ List.replicate (N.length - vs.length) none := rfl
/-- the modes at the ends: those of the parameters that are handed back -/
def retM (ms : List Md) (n : Nat) : List Md := ms.map (fun m => if m = .frz then .dead else m) ++ List.replicate n .dead
theorem retM_slots {P : Par} {B H : Hp} {G F : Addr → Prop} : ∀ {ms : List Md} {n : Nat} {ρ : Env'} {σ : L2.St} {vs : List V} {es : List Ent}, ρ.length = ms.length + n → σ.length = ms.length + n → vs.length = ms.length →
    (∀ (i : Nat) (m : Md), ms[i]? = some m → m ≠ .frz → σ[i]? = some (vs[i]?)) → World P B G F (es ++ slots (retM ms n) ρ σ) H → World P B G F (es ++ ioE ms (ρ.take ms.length) vs) H
  | [], n, ρ, σ, vs, es, h1, h2, h3, hp, w => by
    have w2 : World P B G F (slots (retM [] n) ρ σ ++ es) H := w.perm List.perm_append_comm
    have w3 : World P B G F es H := w2.drop
    simpa [ioE] using w3
  | m :: ms, n, d :: ρ, v :: σ, u :: vs, es, h1, h2, h3, hp, w => by
    have w1 : World P B G F ((es ++ [(if m = .frz then .dead else m, d, v)]) ++ slots (retM ms n) ρ σ) H := by
      rw [List.append_assoc]
      exact w
    have w2 := retM_slots (ms := ms) (n := n) (ρ := ρ) (σ := σ) (vs := vs) (by simp at h1; omega) (by simp at h2; omega) (by simpa using h3) (fun i m h hm => by simpa using hp (i + 1) m (by simpa using h) hm) w1
    rw [List.append_assoc] at w2
    by_cases hm : m = .frz
    · subst hm
      have w3 : World P B G F ((.dead, d, v) :: (es ++ ioE ms (ρ.take ms.length) vs)) H := w2.perm List.perm_middle
      exact w3.drop1
    · have e := hp 0 m rfl hm
      simp only [List.getElem?_cons_zero, Option.some.injEq] at e
      subst e
      rw [if_neg hm] at w2
      have e : ioE (m :: ms) ((d :: ρ).take (m :: ms).length) (u :: vs) = (m, d, some u) :: ioE ms (ρ.take ms.length) vs := by
        cases m <;> first | rfl | exact absurd rfl hm
      rw [e]
      exact w2
  | _ :: _, _, [], _, _, _, h, _, _, _, _ => by simp at h; omega
  | _ :: _, _, _ :: _, [], _, _, _, h, _, _, _ => by simp at h; omega
  | _ :: _, _, _ :: _, _ :: _, [], _, _, _, h, _, _ => by simp at h
def pinsOf (ms : List Md) (vs : List V) : List (Nat × V) := (List.range ms.length).filterMap fun i => if ms.getD i .frz = .frz then none else (vs[i]?).map fun v => (i, v)
def sgOf (P : Par2) (pv : List (Nat × V)) (ms : List Md) (n : Nat) (mr : Md) (W : WX) : Sg := ⟨pv, List.replicate (ms.length + n) .dead, List.replicate (ms.length + n) .dead, retM ms n, List.replicate (ms.length + n) .dead, mr, W⟩
theorem body_world {P : Par2} {N : List Str} {ms : List Md} {n : Nat} {pv : List (Nat × V)} {vs : List V} {ds : List D} {B H : Hp} {G F : Addr → Prop} (hl : vs.length = ms.length) (hd : ds.length = ms.length) (w : World P.toPar B G F (zipE ms ds vs) H) (hN : N.length = ms.length + n)
    (hp : ∀ p ∈ pv, vs[p.1]? = some p.2) : Stt P B G F pv (ms ++ List.replicate n .dead) (ds ++ List.replicate n .none) (start N vs) [] H := by
  have hvs : vs.length ≤ N.length := by omega
  refine ⟨?_, by simp [hd], ?_, fun p hpp => ?_⟩
  · show World P.toPar B G F ([] ++ slots (ms ++ List.replicate n .dead) (ds ++ List.replicate n .none) (start N vs)) H
    rw [start_eq, slots_app hd.symm (by simp [hl])]
    rw [getElem_zipE hd.symm hl.symm] at w
    exact World.deads w
  · rw [start_eq]
    simp [hl, hN]
  · rw [start_eq]
    have hi : p.1 < vs.length := (List.getElem?_eq_some_iff.mp (hp p hpp)).1
    rw [List.getElem?_append_left (by simpa using hi), List.getElem?_map, hp p hpp]
    rfl
theorem body_end {P : Par2} {ms : List Md} {n : Nat} {pv : List (Nat × V)} {vs : List V} {B : Hp} {G : Addr → Prop} (hl : vs.length = ms.length) (hp : ∀ p ∈ pv, vs[p.1]? = some p.2) (hio : ∀ (i : Nat) (m : Md), ms[i]? = some m → m ≠ .frz → ∃ v, (i, v) ∈ pv)
    {ρ : Env'} {σ' : L2.St} {H' : Hp} {F' : Addr → Prop} {ts : List Ent} (s : Stt P B G F' pv (retM ms n) ρ σ' ts H') : World P.toPar B G F' (ts ++ ioE ms (ρ.take ms.length) vs) H' := by
  have l0 : (retM ms n).length = ms.length + n := by simp [retM]
  exact retM_slots (by rw [s.lr, l0]) (by rw [s.ls, l0]) hl (fun i m e hm => by
    obtain ⟨v, hv⟩ := hio i m e hm
    rw [s.pv (i, v) hv, hp (i, v) hv]) s.w
/-- the begin of a body: pv the pins of the parameters handed back -/
theorem body_start {P : Par2} {N : List Str} {ms : List Md} {n : Nat} {mr : Md} {c : FnS} {pv : List (Nat × V)} {vs : List V} {H : Hp} {Q : VK} {E : XK} {Mn : List Md} (h : spT P ms mr (runV mr ms.length n c) vs H Q E) (hN : N.length = ms.length + n)
    (hp : ∀ p ∈ pv, vs[p.1]? = some p.2) (hio : ∀ (i : Nat) (m : Md), ms[i]? = some m → m ≠ .frz → ∃ v, (i, v) ∈ pv) (hMn : leM Mn (retM ms n) = true) :
    tS P (sgOf P pv ms n mr fun cls d σ H' => E cls d H') (ms ++ List.replicate n .dead) Mn c { nx := fun _ H' => Q .non H', rt := Q } (start N vs) H := by
  obtain ⟨hl, B, G, F, ds, hd, w, k⟩ := h
  refine ⟨B, G, F, ds ++ List.replicate n PyData.none, [], body_world (pv := pv) hl hd w hN hp, ?_⟩
  have k : match (match c (ds ++ List.replicate n PyData.none) with
    | .ok (.ret d ρ) => R.ok (d, ρ.take ms.length)
    | .ok (.nx ρ) => if mr = Md.frz then .ok (PyData.none, ρ.take ms.length) else .bad
    | .exc c xs ρ => .exc c xs []
    | _ => .bad) with
    | .ok (d, ds') => ds'.length = ms.length ∧ ∀ v H' F', World P.toPar B G F' ((mr, d, some v) :: ioE ms ds' vs) H' → (∀ a, F a → F' a) → Q v H'
    | .exc c xs _ => ∀ cls dx H' F', World P.toPar B G F' [] H' → ExcAt P H' F' c xs cls dx → (∀ a, F a → F' a) → E cls dx H'
    | .bad => False := k
  cases e : c (ds ++ List.replicate n PyData.none) with
  | bad => rw [e] at k; exact k
  | exc cc xs ρ =>
    rw [e] at k
    intro cls dx σ' H' F' s' hx hF
    exact k cls dx H' F' (by have := s'.w; exact World.drop (ts := slots _ ρ σ') (by simpa using this)) hx hF
  | ok fl =>
    rw [e] at k
    cases fl with
    | ret d ρ => exact fun v σ' H' F' s' hF => k.2 v H' F' (body_end (ts := [(mr, d, some v)]) hl hp hio s') hF
    | nx ρ =>
      intro σ' H' F' s' hF
      by_cases hmr : mr = .frz
      · subst hmr
        simp only [if_true] at k
        exact k.2 .non H' F' ((body_end (ts := []) hl hp hio (s'.le hMn)).push .non) hF
      · simp only [if_neg hmr] at k
    | brk ρ => exact k.elim
    | ct ρ => exact k.elim
theorem body_start0 {P : Par2} {N : List Str} {ms : List Md} {n : Nat} {mr : Md} {c : FnS} {pv : List (Nat × V)} {vs : List V} {H : Hp} {Q : VK} {E : XK} {Mn : List Md} (h : spT P ms mr (runV0 mr ms.length n c) vs H Q E) (hN : N.length = ms.length + n)
    (hp : ∀ p ∈ pv, vs[p.1]? = some p.2) (hio : ∀ (i : Nat) (m : Md), ms[i]? = some m → m ≠ .frz → ∃ v, (i, v) ∈ pv) (hMn : leM Mn (retM ms n) = true) :
    tS P (sgOf P pv ms n mr W0) (ms ++ List.replicate n .dead) Mn c { nx := fun _ H' => Q .non H', rt := Q } (start N vs) H := by
  obtain ⟨hl, B, G, F, ds, hd, w, k⟩ := h
  refine ⟨B, G, F, ds ++ List.replicate n PyData.none, [], body_world (pv := pv) hl hd w hN hp, ?_⟩
  have k : match (match c (ds ++ List.replicate n PyData.none) with
    | .ok (.ret d ρ) => R.ok (d, ρ.take ms.length)
    | .ok (.nx ρ) => if mr = Md.frz then .ok (PyData.none, ρ.take ms.length) else .bad
    | _ => .bad) with
    | .ok (d, ds') => ds'.length = ms.length ∧ ∀ v H' F', World P.toPar B G F' ((mr, d, some v) :: ioE ms ds' vs) H' → (∀ a, F a → F' a) → Q v H'
    | .exc c xs _ => ∀ cls dx H' F', World P.toPar B G F' [] H' → ExcAt P H' F' c xs cls dx → (∀ a, F a → F' a) → E cls dx H'
    | .bad => False := k
  cases e : c (ds ++ List.replicate n PyData.none) with
  | bad => rw [e] at k; exact k
  | exc cc xs ρ =>
    rw [e] at k
    exact k.elim
  | ok fl =>
    rw [e] at k
    cases fl with
    | ret d ρ => exact fun v σ' H' F' s' hF => k.2 v H' F' (body_end (ts := [(mr, d, some v)]) hl hp hio s') hF
    | nx ρ =>
      intro σ' H' F' s' hF
      by_cases hmr : mr = .frz
      · subst hmr
        simp only [if_true] at k
        exact k.2 .non H' F' ((body_end (ts := []) hl hp hio (s'.le hMn)).push .non) hF
      · simp only [if_neg hmr] at k
    | brk ρ => exact k.elim
    | ct ρ => exact k.elim
theorem spT_len {P : Par2} {ms : List Md} {mr : Md} {fn : FnV} {ps : List Str} (h : ms.length = ps.length) : ∀ vs H Q E, spT P ms mr fn vs H Q E → vs.length = ps.length := fun vs H Q E q => q.1.trans h
/-- THE RULE for a def that raises nothing: pv by the values of the parameters handed back -/
theorem def0 {Pr : Program} {w : PySem.World} {P : Par2} {mg : Str → Option Value} {base : Heap} {k : Nat} {x qual : Str} {params : Arguments} {body : List Stmt} {scope : Scope} {kws : List (Str × V)} {f : Addr} {fd : FuncData} {N ps : List Str} {ms : List Md} {n : Nat} {mr : Md} {c : FnS} {Mn : List Md} (pv : List V → List (Nat × V)) (F : FunD P.K x qual params body scope [] kws f fd) (S : FnScope N ps scope)
    (hsys : ∃ o, base.get? sysModules = some o) (hms : ms.length = ps.length) (hN : N.length = ms.length + n) (hp : ∀ vs : List V, vs.length = ms.length → ∀ p ∈ pv vs, vs[p.1]? = some p.2) (hio : ∀ vs : List V, vs.length = ms.length → ∀ (i : Nat) (m : Md), ms[i]? = some m → m ≠ .frz → ∃ v, (i, v) ∈ pv vs) (hMn : leM Mn (retM ms n) = true)
    (hb : ∀ (cdv : Value) (A : Around) (outer : List Env) (s : Shared) (H : Hp) (E : XK) (vs : List V), CtxOk (cxOf (L2.CX Pr w) Pr w P.K mg base N qual scope f cdv A outer s H E).nox P k →
      PSs (cxOf (L2.CX Pr w) Pr w P.K mg base N qual scope f cdv A outer s H E).nox body (tS P (sgOf P (pv vs) ms n mr W0) (ms ++ List.replicate n .dead) Mn c)) : FnT Pr w P.K mg base (k + 1) f fd ps (spT P ms mr (runV0 mr ms.length n c)) :=
  fnT_ofD F S (spT_len hms) hsys fun cdv A outer s H vs Q E C hsp => ⟨_, PSs.nox (hb cdv A outer s H E vs C.nox), body_start0 hsp hN (hp vs hsp.1) (hio vs hsp.1) hMn⟩
theorem hp0 {ms : List Md} : ∀ vs : List V, vs.length = ms.length → ∀ p ∈ ([] : List (Nat × V)), vs[p.1]? = some p.2 := fun vs _ p hp => absurd hp (by simp)
theorem hio0 {ms : List Md} (h : ms.all (· == .frz) = true) : ∀ vs : List V, vs.length = ms.length → ∀ (i : Nat) (m : Md), ms[i]? = some m → m ≠ .frz → ∃ v, (i, v) ∈ ([] : List (Nat × V)) := fun vs _ i m e hm => absurd (by simpa using List.all_eq_true.mp h m (List.mem_of_getElem? e)) hm
/-- the first parameter is handed back -/
def pvFst : List V → List (Nat × V) := fun vs => [(0, vs.headD .non)]
theorem hp1 {m : Md} {ms : List Md} : ∀ vs : List V, vs.length = (m :: ms).length → ∀ p ∈ pvFst vs, vs[p.1]? = some p.2 := fun vs hl p hp => by
  match vs, hl with
  | v :: vs, _ =>
    have e : p = (0, v) := by simpa [pvFst] using hp
    subst e
    rfl
theorem hio1 {m : Md} {ms : List Md} (h : ms.all (· == .frz) = true) : ∀ vs : List V, vs.length = (m :: ms).length → ∀ (i : Nat) (m' : Md), (m :: ms)[i]? = some m' → m' ≠ .frz → ∃ v, (i, v) ∈ pvFst vs := fun vs _ i m' e hm => by
  cases i with
  | zero => exact ⟨_, List.mem_singleton.mpr rfl⟩
  | succ i => exact absurd (by simpa using List.all_eq_true.mp h m' (List.mem_of_getElem? (by simpa using e))) hm
theorem never {X : Cx} : PassesOwn (model X.prog X.w) X.A X.nox.env X.nox.xe := PassesOwn.never
/-! ### pure operands -/
theorem pureF_c {d : D} : PureF fun ρ => .ok (d, ρ) := fun ρ d ρ' h => by cases h; rfl
theorem pureF_v {i : Nat} : PureF (rdVar i) := fun ρ d ρ' h => by cases h; rfl
theorem pureF_b {g : D → D → Option D} {fa fb : Fn'} (ha : PureF fa) (hb : PureF fb) : PureF (bin2 g fa fb) := fun ρ d ρ' h => by
  obtain ⟨x, e1, h⟩ := R.ok_of_bind h
  obtain ⟨y, e2, h⟩ := R.ok_of_bind h
  have h1 := ha _ _ _ e1
  have h2 := hb _ _ _ e2
  cases e3 : g x.1 y.1 with
  | none => rw [e3] at h; cases h
  | some z =>
    rw [e3] at h
    cases h
    rw [h2, h1]
theorem pureF_u {g : D → Option D} {fa : Fn'} (ha : PureF fa) : PureF (un1 g fa) := fun ρ d ρ' h => by
  obtain ⟨x, e1, h⟩ := R.ok_of_bind h
  have h1 := ha _ _ _ e1
  cases e3 : g x.1 with
  | none => rw [e3] at h; cases h
  | some z =>
    rw [e3] at h
    cases h
    rw [h1]
theorem pureA_nil : PureA nilA := fun ρ d ρ' h => by cases h; rfl
theorem pureA_cons {fa : Fn'} {fr : FnA} (ha : PureF fa) (hr : PureA fr) : PureA (consA fa fr) := fun ρ d ρ' h => by
  obtain ⟨x, e1, h⟩ := R.ok_of_bind h
  obtain ⟨y, e2, h⟩ := R.ok_of_bind h
  cases h
  rw [hr _ _ _ e2, ha _ _ _ e1]
theorem pureF_m {g : List D → Option D} {f : FnA} (h : PureA f) : PureF (mapA g f) := fun ρ d ρ' hh => by
  obtain ⟨x, e1, hh⟩ := R.ok_of_bind hh
  have h1 := h _ _ _ e1
  cases e3 : g x.1 with
  | none => rw [e3] at hh; cases hh
  | some z =>
    rw [e3] at hh
    cases hh
    rw [h1]
end Z

set_option maxRecDepth 100000
set_option maxHeartbeats 1000000
namespace Z
open PySem PySem.Spec PyProof.Rows L2

abbrev cF (d : D) : Fn' := fun ρ => .ok (d, ρ)
theorem bt_len : bootBuiltins "len" = some (.builtin "len") := by decide +kernel
theorem bt_repr : bootBuiltins "repr" = some (.builtin "repr") := by decide +kernel
theorem bt_abs : bootBuiltins "abs" = some (.builtin "abs") := by decide +kernel
theorem bt_sum : bootBuiltins "sum" = some (.builtin "sum") := by decide +kernel
theorem bt_all : bootBuiltins "all" = some (.builtin "all") := by decide +kernel
theorem bt_any : bootBuiltins "any" = some (.builtin "any") := by decide +kernel
theorem bt_max : bootBuiltins "max" = some (.builtin "max") := by decide +kernel
theorem bt_min : bootBuiltins "min" = some (.builtin "min") := by decide +kernel
theorem bt_sorted : bootBuiltins "sorted" = some (.builtin "sorted") := by decide +kernel
theorem bt_list : bootBuiltins "list" = some (.type "list") := by decide +kernel
theorem bt_tuple : bootBuiltins "tuple" = some (.type "tuple") := by decide +kernel
theorem bt_int : bootBuiltins "int" = some (.type "int") := by decide +kernel
theorem bt_str : bootBuiltins "str" = some (.type "str") := by decide +kernel
theorem bt_bool : bootBuiltins "bool" = some (.type "bool") := by decide +kernel
theorem bt_dict : bootBuiltins "dict" = some (.type "dict") := by decide +kernel
section
variable {X : Cx} {P : Par2} {pv : List (Nat × V)} {M Mt Mn : List Md} {W : WX} {k : Nat} {J : Sg}
theorem pe_bty {x : Str} {T : String} {p : Pos} (hg : Gl X x) (hm : X.mg x = none) (hv : bootBuiltins x = some (.type T)) (hn : x ≠ "__name__" := by decide) (hd : (x == ("__debug__" : Str)) = false := by decide) : PE X (.Name x p) (tC (.ty T)) :=
  ⟨fun pins s σ H Q I h => ld_blt I hg hm hv ⟨.ty T, H, I, rfl, h⟩ hn hd⟩
theorem pe_tt {j : Nat} {pos : Pos} {b : Bool} (h : PE X (.Constant (.bool b) j pos) (tC (.bl b))) : TO X P pv M W (.Constant (.bool b) j pos) (.tm .frz) (cF (.bool b)) := TO.const h fun _ _ => .bl b
/-- a slot among arguments: what it holds behind them all -/
def consS (i : Nat) (fr : FnA) : FnA := fun ρ => fr ρ >>= fun y => .ok (y.2.getD i .none :: y.1, y.2)
theorem slot_args {i : Nat} {m : Md} {os : List Om} {fr : FnA} {σ : L2.St} {H : Hp} {Q : List V → Hp → Prop} (hm : M[i]? = some m) (hd : m ≠ .dead) (h : tAs P pv M (.sl i :: os) W (consS i fr) σ H Q) : tCons (tVar i) (tAs P pv M os W fr) σ H Q := by
  obtain ⟨B, G, F, ρ, ts, s, k⟩ := h
  obtain ⟨v, ev, _⟩ := s.slot hm hd
  refine ⟨v, ev, B, G, F, ρ, ts, s, ?_⟩
  have k : PostA P B G F pv M σ ts (.sl i :: os) W Q (fr ρ >>= fun y => .ok (y.2.getD i .none :: y.1, y.2)) := k
  cases e2 : fr ρ with
  | bad => rw [e2] at k; exact k
  | exc c xs ρ' => rw [e2] at k; exact k
  | ok y =>
    obtain ⟨ds, ρ2⟩ := y
    rw [e2] at k
    exact fun vs H2 F2 s2 h2 hF2 => k (v :: vs) H2 F2 s2 (.cons ev h2) hF2
theorem consS_len {i : Nat} {os : List Om} {fr : FnA} (hl : ∀ ρ ds ρ', fr ρ = .ok (ds, ρ') → ds.length = os.length) : ∀ ρ ds ρ', consS i fr ρ = .ok (ds, ρ') → ds.length = (Om.sl i :: os).length := fun ρ ds ρ' h => by
  obtain ⟨y, e2, h⟩ := R.ok_of_bind h
  cases h
  simp [hl _ _ _ e2]
theorem consS_sl {j : Nat} {os : List Om} {fr : FnA} (hs : ∀ ρ ds ρ', fr ρ = .ok (ds, ρ') → ∀ (k i : Nat), os[k]? = some (Om.sl i) → ds[k]? = some (ρ'.getD i PyData.none)) :
    ∀ ρ ds ρ', consS j fr ρ = .ok (ds, ρ') → ∀ (k i : Nat), (Om.sl j :: os)[k]? = some (Om.sl i) → ds[k]? = some (ρ'.getD i PyData.none) := fun ρ ds ρ' h k i z => by
  obtain ⟨y, e2, h⟩ := R.ok_of_bind h
  cases h
  cases k with
  | zero =>
    simp only [List.getElem?_cons_zero, Option.some.injEq, Om.sl.injEq] at z ⊢
    rw [z]
  | succ k =>
    simp only [List.getElem?_cons_succ] at z ⊢
    exact hs _ _ _ e2 k i z
theorem TAs.consS {e : Expr} {es : List Expr} {i : Nat} {m : Md} {os : List Om} {fr : FnA} (h : PE X e (tVar i)) (hr : TAs X P pv M W es os fr) (hm : M[i]? = some m := by rfl) (hd : m ≠ .dead := by decide)
    (hs : starEach (e :: es) X.env = (false, eval e X.env) :: starEach es X.env := by rfl) : TAs X P pv M W (e :: es) (.sl i :: os) (consS i fr) :=
  ⟨(pa_cons h hr.pa hs).imp fun σ H Q q => slot_args hm hd q, consS_len hr.len, consS_sl hr.sl⟩
theorem TKs.consS {nm : Option Str} {e : Expr} {kpos : Pos} {kws : List Keyword} {i : Nat} {m : Md} {os : List Om} {fr : FnA} (h : PE X e (tVar i)) (hr : TKs X P pv M W kws os fr) (hm : M[i]? = some m := by rfl) (hd : m ≠ .dead := by decide) : TKs X P pv M W (⟨nm, e, kpos⟩ :: kws) (.sl i :: os) (consS i fr) :=
  ⟨(pk_cons h hr.pk).imp fun σ H Q q => slot_args hm hd q, consS_len hr.len, consS_sl hr.sl⟩
/-- a slot is out of sight for an expression -/
def shadeF (i : Nat) (f : Fn') : Fn' := fun ρ => match f ρ with
  | .ok x => .ok (x.1, x.2.set i (ρ.getD i .none))
  | .exc c xs ρ' => .exc c xs (ρ'.set i (ρ.getD i .none))
  | .bad => .bad
theorem TO.shade {e : Expr} {m m' : Md} {f : Fn'} {i : Nat} (h : TO X P pv (M.set i .dead) W e (.tm m) f) (hm : M[i]? = some m' := by rfl) (hd : m' ≠ .dead := by decide) : TO X P pv M W e (.tm m) (shadeF i f) :=
  ⟨h.pe.imp fun σ H Q ⟨B, G, F, ρ, ts, s, kk⟩ => by
    obtain ⟨v, ev, _⟩ := s.slot hm hd
    have w1 := take_slot s.w hm s.lr s.ls
    rw [getD_of ev] at w1
    have s1 : Stt P B G F pv (M.set i .dead) ρ σ ((m', ρ.getD i .none, some v) :: ts) H := ⟨w1, by simpa using s.lr, by simpa using s.ls, s.pv⟩
    refine ⟨B, G, F, ρ, _, s1, ?_⟩
    unfold shadeF at kk
    have home : ∀ {F' : Addr → Prop} {us : List Ent} {ρ' : Env'} {H' : Hp}, Stt P B G F' pv (M.set i .dead) ρ' σ (us ++ (m', ρ.getD i .none, some v) :: ts) H' → Stt P B G F' pv M (ρ'.set i (ρ.getD i .none)) σ (us ++ ts) H' := fun {F' us ρ' H'} s' => by
      have l1 : ρ'.length = M.length := by simpa using s'.lr
      have l2 : σ.length = M.length := by simpa using s'.ls
      have w3 : World P.toPar B G F' ((m', ρ.getD i .none, some v) :: ((us ++ ts) ++ slots (M.set i .dead) ρ' σ)) H' := s'.w.perm (by
        rw [List.append_assoc, List.append_assoc]
        exact List.perm_middle)
      have w4 := put_slot (i := i) (M := M) (ρ := ρ') (σ := σ) (d := ρ.getD i .none) (by rw [getD_of ev]; exact w3) hm l1 l2
      exact ⟨w4, by simpa using l1, l2, s'.pv⟩
    cases e1 : f ρ with
    | bad => rw [e1] at kk; exact kk
    | exc c xs ρ' =>
      rw [e1] at kk
      intro cls dx H' F' s' hx hF
      exact kk cls dx H' F' (home (us := []) s') hx hF
    | ok x =>
      rw [e1] at kk
      exact fun v2 H2 F2 s2 _ hF => kk v2 H2 F2 (home (us := [(m, x.1, some v2)]) s2) trivial hF, fun _ z => nomatch z⟩
/-- the left operand is a slot: read behind the right one -/
def bin2S (g : D → D → Option D) (i : Nat) (fb : Fn') : Fn' := fun ρ => fb ρ >>= fun y => ofO ((g (y.2.getD i .none) y.1).map fun z => (z, y.2))
theorem two_opsS {b : Expr} {i : Nat} {ma : Md} {ob : Om} {fb : Fn'} (hm : M[i]? = some ma) (la : ma.flat = true) (hb : TO X P pv M W b ob fb) (lb : ob.flat M = true)
    {g : D → D → Option D} {m : Md} {σ : L2.St} {H : Hp} {Q : VK} (h : tO P pv M (.tm m) W (bin2S g i fb) σ H Q) : tOp (rV P.toPar g m) (tVar i) (tO P pv M ob W fb) σ H Q := by
  obtain ⟨B, G, F, ρ, ts, s, kk⟩ := h
  have hd : ma ≠ .dead := fun z => by rw [z] at la; cases la
  obtain ⟨v1, ev, _⟩ := s.slot hm hd
  refine ⟨v1, ev, B, G, F, ρ, ts, s, ?_⟩
  have kk : Post P B G F pv M σ ts (.tm m) W Q (fb ρ >>= fun y => ofO ((g (y.2.getD i .none) y.1).map fun z => (z, y.2))) := kk
  cases e2 : fb ρ with
  | bad => rw [e2] at kk; exact kk
  | exc c xs ρ' => rw [e2] at kk; exact kk
  | ok y =>
    obtain ⟨d2, ρ2⟩ := y
    rw [e2] at kk
    intro v2 H2 F2 s2 h2 hF2
    have kk : Post P B G F pv M σ ts (.tm m) W Q (ofO ((g (ρ2.getD i .none) d2).map fun z => (z, ρ2))) := kk
    cases e3 : g (ρ2.getD i .none) d2 with
    | none => rw [e3] at kk; exact kk.elim
    | some z =>
      rw [e3] at kk
      obtain ⟨v1', ev', q1⟩ := s2.slot hm hd
      rw [ev] at ev'
      cases ev'
      refine ⟨B, G, F2, _, _, d2, z, s2.w, s2.w.vw q1 la, ?_, e3, fun v H' F' w' hF' => ?_⟩
      · refine s2.opnd (fun e he => List.mem_append_left _ he) lb h2 fun i hi => ?_
        have q := hb.sl i hi
        rw [q] at e2
        cases e2
        rfl
      · have s3 : Stt P B G F' pv M ρ2 σ ((m, z, some v) :: (ob.ent d2 v2 ++ ts)) H' := s2.to w'
        exact kk v H' F' s3.dropM trivial fun a z => hF' a (hF2 a z)
theorem TO.binS {a b : Expr} {op : Operator} {i : Nat} {ma : Md} {ob : Om} {fb : Fn'} {pos : Pos} {g : D → D → Option D} {m : Md} (hg : OpR X (binaryOp op) (rV P.toPar g m)) (ha : PE X a (tVar i)) (hb : TO X P pv M W b ob fb) (hm : M[i]? = some ma := by rfl) (la : ma.flat = true := by rfl) (lb : ob.flat M = true := by rfl) :
    TO X P pv M W (.BinOp a op b pos) (.tm m) (bin2S g i fb) :=
  ⟨(pe_op hg ha hb.pe).imp fun σ H Q h => two_opsS hm la hb lb h, fun _ z => nomatch z⟩
/-! ### what a def promises, with its name and bindings -/
def HasD (Pr : Program) (w : PySem.World) (P : Par2) (mg : Str → Option Value) (base : Heap) (k : Nat) (x : Str) (ps : List Str) (sp : Sp) (kb : FuncData → Prop) : Prop :=
  ∃ f fd, FnT Pr w P.K mg base k f fd ps sp ∧ mg x = some (.ref f) ∧ PySem.W.keepIn P.K (.ref f) = true ∧ kb fd
end
end Z

set_option maxRecDepth 100000
set_option maxHeartbeats 1000000
namespace Z
open PySem PySem.Spec PyProof.Rows L2

/-! ### the script -/
section
variable {X : Cx} {P : Par2} {pv : List (Nat × V)} {M : List Md} {W : WX} {k : Nat}
theorem Stt.scr {B H : Hp} {G F : Addr → Prop} {ρ : Env'} {σ : L2.St} {ts : List Ent} {i : Nat} (s : Stt P B G F pv M ρ σ ts H) (hm : M[i]? = some .scr) :
    ∃ (a : Addr) (ns : List Int), σ[i]? = some (some (.ref a)) ∧ ρ.getD i .none = .list (ns.map PyData.int) ∧ SqL P.K H a (ns.map V.int) := by
  obtain ⟨v, e, q⟩ := s.slot hm (by decide)
  obtain ⟨v', ev, S, r, _⟩ := s.w.mem q (by decide)
  cases ev
  revert r
  generalize ρ.getD i .none = d
  intro r
  cases r with
  | @scr a ns r => exact ⟨a, ns, e, rfl, r.elim (fun ⟨o, z⟩ => .inl (.inr ⟨o, z⟩)) fun z => z H⟩
/-- script[:63] -/
def scrF (i : Nat) (n : Int) : Fn' := fun ρ => match ρ.getD i .none with
  | .list ds => .ok (.list (cutD ds none (some n)), ρ)
  | _ => .bad
theorem TO.scr {o : Expr} {i j : Nat} {n : Int} {p2 p3 pos : Pos} (C : CtxOk X P k) (ho : PE X o (tVar i)) (hm : M[i]? = some .scr := by rfl) : TO X P pv M W (.Subscript o (.Slice none (some (.Constant (.int n) j p3)) none p2) pos) (.tm (.lst .frz)) (scrF i n) :=
  ⟨(pe_slice sl_list ho po_none (po_some pe_int)).imp fun σ H Q ⟨B, G, F, ρ, ts, s, kk⟩ => by
    obtain ⟨a, ns, ev, ed, hq⟩ := s.scr hm
    refine ⟨.ref a, ev, n, rfl, a, ns.map V.int, rfl, by rw [C.hK]; exact hq, fun p hp => ?_⟩
    unfold scrF at kk
    rw [ed] at kk
    exact kk (.ref p) _ F (s.to (s.w.lst0 ((RFs.of_ints ns).cut none (some n)) hp)) trivial fun _ z => z, fun _ z => nomatch z⟩
end

/-! ### the law's end -/
/-- the hook: the facts, and that sys.modules stands -/
def sysB (g : Addr → Option Obj) : Bool := match g sysModules with
  | some o => (match o.data with
    | .dict _ _ => true
    | _ => false)
  | none => false
def sysOk (h : Heap) : Prop := ∃ (o : Obj) (es : Array DictEntry) (ep : Nat), h.get? sysModules = some o ∧ o.data = .dict es ep
theorem sysB_ok {h : Heap} (e : sysB h.get? = true) : sysOk h := by
  unfold sysB at e
  cases q : h.get? sysModules with
  | none => rw [q] at e; cases e
  | some o =>
    rw [q] at e
    obtain ⟨c, dd, dt, sl⟩ := o
    cases dt with
    | dict es ep => exact ⟨_, es, ep, q, rfl⟩
    | _ => cases e
def hookZ (n : Nat) (fa : List He.Fa) (fn : List He.DefD) : PySem.W.Hook where
  α := He.AlD × Bool
  obs := fun s => (He.obsDG n fa fn s.heap.get?, sysB s.heap.get?)
  val := fun _ => (He.valD fn, true)
  says := fun _ h => (∃ K : PySem.W.Frag, K.In h ∧ He.SaysD fa fn K) ∧ sysOk h
  of := fun w s e => ⟨(He.hookD n fa fn).of w s (congrArg Prod.fst e), sysB_ok (congrArg Prod.snd e)⟩
  keeps := fun w h h' ⟨a, b⟩ k => ⟨(He.hookD n fa fn).keeps w h h' a k, by
    obtain ⟨o, es, ep, e, d⟩ := b
    exact ⟨o, es, ep, k _ _ e, d⟩⟩
theorem hookZ_eq {n : Nat} {fa : List He.Fa} {fn : List He.DefD} {g : Addr → Option Obj} {s : Shared} (h : ∀ a, g a = s.heap.get? a) : (He.obsDG n fa fn g, sysB g) = (hookZ n fa fn).obs s := by
  have e : g = s.heap.get? := funext h
  rw [e] <;> rfl
theorem CX_none {P : Program} {w : PySem.World} {H : Hp} {s s' : Shared} {u : Value} (h : L2.CX P w [] H s (fun _ _ _ => False) u s') : False := by
  obtain ⟨a, B, H', cls, d, _, _, _, _, _, _, _, z⟩ := h
  exact z
theorem law_end {P : Program} {w : PySem.World} {K : PySem.W.Frag} {mg mb : Str → Option Value} {k : Nat} {fa a : Addr} {fd : FuncData} {x : Str} {sp : Sp} {s₁ : Shared} {vs : List Value} {ns : List Int}
    (KX : K.In s₁.heap) (sys : sysOk s₁.heap) (hns : s₁.heap.Ns mainGlobals mg) (hb : s₁.heap.Ns builtinsNs mb) (hbb : ∀ x : Str, x ≠ "__name__" → mb x = bootBuiltins x) (hlim : s₁.heap.NoLimit) (hg : s₁.gens = #[])
    (ha : s₁.heap.get? a = some { cls := .type "list", data := .seq vs.toArray }) (hi : IntsAre vs ns) (hl : ns.length ≤ sizeLine) (hr : Room k callerA)
    (F : ∀ base : Heap, K.In base → base.Ns mainGlobals mg → (∃ o, base.get? sysModules = some o) → FnT P w K mg base k fa fd [x] sp) (hbind : ∀ (s : Shared) (u : Value), BindsTo s fd ⟨[u], []⟩ [(x, u)])
    (hsp : ∀ H : Hp, ((∃ o, H a = some (.frz o (.lst (ns.map V.int)))) ∨ ∀ H', SqL K H' a (ns.map V.int)) → sp [.ref a] H (fun v _ => v = .bl true) fun _ _ _ => False) :
    codeAny (model P w) callerA (.call (.ref fa) ⟨[.ref a], []⟩) (fun r s' => r = .ok (.ret (.bool true)) ∧ OldK s₁.heap s'.heap ∧ s'.os = s₁.os ∧ AllBare s'.gens) s₁ := by
  have rv := vals_ints hi
  have lenV := hi.length
  have core : ∀ H : Hp, L2.Only H → ((∃ o, H a = some (.frz o (.lst (ns.map V.int)))) ∨ ∀ H', SqL K H' a (ns.map V.int)) → HOk P w H s₁.heap → (∀ b, H b ≠ none → b = a) → (H a ≠ none → K.lookup a = none) →
      codeAny (model P w) callerA (.call (.ref fa) ⟨[.ref a], []⟩) (fun r s' => r = .ok (.ret (.bool true)) ∧ OldK s₁.heap s'.heap ∧ s'.os = s₁.os ∧ AllBare s'.gens) s₁ := by
    intro H hO hS hok hA hK
    have at_ : ∀ {b : Addr}, H b ≠ none → b = a := fun {b} z => hA b z
    have base_of : ∀ {b : Addr} {o : Obj}, s₁.heap.get? b = some o → H b = none → (hidT s₁.heap H).get? b = some o := fun e n => hidT_get e n
    have noA : ∀ {b : Addr} {o : Obj} {es : Array DictEntry} {ep : Nat}, s₁.heap.get? b = some o → o.data = .dict es ep → H b = none := fun {b o es ep} e d => by
      cases q : H b with
      | none => rfl
      | some u =>
        have e' : b = a := at_ (by rw [q]; simp)
        rw [e', ha] at e
        cases e
        have d' : Data.seq vs.toArray _ = Data.dict es ep := d
        cases d'
    have nsK : ∀ {b : Addr} {m : Str → Option Value}, s₁.heap.Ns b m → (hidT s₁.heap H).Ns b m := fun {b m} ⟨o, es, ep, e, d, r⟩ => ⟨o, es, ep, base_of e (noA e d), d, r⟩
    have hKb : K.In (hidT s₁.heap H) := fun b o e => base_of (KX b o e) (by
      cases q : H b with
      | none => rfl
      | some u =>
        have e' : b = a := at_ (by rw [q]; simp)
        rw [e', hK (by rw [← e', q]; simp)] at e
        cases e)
    have hM : Mod K mg (hidT s₁.heap H) := ⟨hKb, nsK hns, ⟨mb, nsK hb, hbb⟩, let ⟨mc, h1, h2⟩ := hlim; ⟨mc, nsK h1, h2⟩⟩
    have hsy : ∃ o, (hidT s₁.heap H).get? sysModules = some o := by
      obtain ⟨o, es, ep, e, d⟩ := sys
      exact ⟨o, base_of e (noA e d)⟩
    have e0 : Env0 P w K mg (hidT s₁.heap H) callerA [] s₁ H := ⟨rfl, hM, fun b o e => of_hidT e, Nat.le_of_eq (hidT_size _ _), trivial, fun b hb => absurd (show b ∈ ([] : List Addr) from hb) (by simp), hok, .of_eq hg⟩
    refine codeAny_mono ((F _ hKb (nsK hns) hsy).run callerA [] s₁ H ⟨[.ref a], []⟩ [.ref a] [.ref a] _ _ hr rfl e0 (hbind s₁ (.ref a)) (.cons rfl .nil) (hsp H hS)) fun r s' h => ?_
    cases r with
    | error e => exact (CX_none h).elim
    | ok fl =>
      cases fl with
      | next => exact False.elim h
      | brk => exact False.elim h
      | cont => exact False.elim h
      | ret u =>
        obtain ⟨v, H', os, bare, un, hok', r', q⟩ := h
        have q' : v = .bl true := q
        subst q'
        obtain rfl : u = Value.bool true := r'
        refine ⟨rfl, OldK.of_keep fun b o e => ?_, os, bare⟩
        cases q : H b with
        | none => exact un.keep b o e q (by intro z; exact absurd (show b ∈ ([] : List Addr) from z) (by simp)) (by simp)
        | some u =>
          rcases hO b with z | ⟨ob, xs, z⟩
          · rw [q] at z
            cases z
          · have z2 := un.frzs b ob _ z
            obtain ⟨e1, _⟩ := hok b _ z
            obtain ⟨e2, _⟩ := hok' b _ z2
            rw [e] at e1
            cases e1
            exact e2
  cases hk : K.lookup a with
  | some o =>
    have e := KX a o hk
    rw [ha] at e
    cases e
    refine core (fun _ => none) (fun _ => .inl rfl) (.inr fun H' => .inr ⟨_, vs.toArray, _, hk, rfl, rfl, rfl, by rw [List.size_toArray, lenV]; exact hl, by simpa using rv⟩) (fun b u z => ?_) (fun b z => absurd rfl z) fun z => absurd rfl z
    have z' : (none : Option HO) = some u := z
    cases z'
  | none =>
    refine core (fun b => if b = a then some (.frz { cls := .type "list", data := .seq vs.toArray } (.lst (ns.map V.int))) else none) (fun b => ?_) (.inl ⟨_, if_pos rfl⟩) (fun b u z => ?_) (fun b z => ?_) fun _ => hk
    · by_cases hb : b = a
      · exact .inr ⟨_, _, if_pos hb⟩
      · exact .inl (if_neg hb)
    · by_cases hb : b = a
      · have z' := (if_pos hb).symm.trans z
        cases z'
        subst hb
        exact ⟨ha, by rw [List.length_map]; exact hl, vs, _, rv, ha⟩
      · have z' := (if_neg hb).symm.trans z
        cases z'
    · by_cases hb : b = a
      · exact hb
      · exact absurd (if_neg hb) z
theorem walk_ofZ {l : PySem.W.OpenLaw} {n k : Nat} {q : Program} {loose : List Str} {XP : (Str → Option Value) → Heap → Prop} {facts : List He.Fa} {fn : List He.DefD} {d : DefRec} {x : Str} {m : Nat}
    (hn : l.most = some n) (hn2 : n ≤ sizeLine) (hdf : d.params.defaults = []) (hr : Room k callerA)
    (F : ∀ (w : PySem.World) (mg : Str → Option Value) (fa : Addr) (h : Heap) (K : PySem.W.Frag), K.In h → He.SaysD facts fn K → h.Ns mainGlobals mg → mg d.name = some (.ref fa) →
      ∃ (fd : FuncData) (tp : TapeP) (fnv : FnV), (∀ (s : Shared) (u : Value), BindsTo s fd ⟨[u], []⟩ [(x, u)]) ∧
        (∀ ns : List Int, ns.length ≤ n → ∃ ds, fnv [.list (ns.map PyData.int)] = .ok (.bool true, ds) ∧ ds.length = 1) ∧
        ∀ base : Heap, (∃ o, base.get? sysModules = some o) → FnT l.prog w K mg base k fa fd [x] (spT { K := K, tp := tp, ec := fun _ => 0, ef := fun _ => [] } [.scr] .frz fnv)) :
    PySem.W.WalkO q loose XP (hookZ m facts fn).says l.row.toRowW d [] (fun f vs => PySem.call f vs) := by
  refine Att.attach_call hn hdf fun w s₀ s₁ mg mb fa o pm cd doc a vs ns G Y ho hd hcd hmg hobj hints hlen hg => ?_
  obtain ⟨⟨K, KX, c⟩, sys⟩ := Y
  obtain ⟨fd, tp, fnv, hb, hval, hF⟩ := F w mg fa _ K KX c G.T.g hmg
  refine law_end KX sys G.T.g G.T.b G.T.builtins G.T.nolimit hg hobj hints (Nat.le_trans hlen hn2) hr (fun base _ _ hs => hF base hs) hb fun H hS => ?_
  obtain ⟨ds, ev, hl⟩ := hval ns hlen
  refine ⟨rfl, H, fun _ => False, fun _ => False, [.list (ns.map PyData.int)], rfl, ⟨⟨[] ++ [], .cons (.held (.scr hS)) .nil, List.nodup_nil, fun a z => by simp at z⟩, fun _ z => z.elim, fun _ z => z.elim, fun _ z => z.elim, fun _ _ z => z⟩, ?_⟩
  rw [ev]
  refine ⟨hl, fun v H' F' w' _ => ?_⟩
  have r := w'.rf_frz (d := .bool true) (v := v) List.mem_cons_self
  cases r
  rfl
end Z

set_option maxRecDepth 100000
set_option maxHeartbeats 1000000
namespace Z
open PySem PySem.Spec PyProof.Rows L2
section
variable {P : Par} {B H : Hp} {G F : Addr → Prop} {es : List Ent}
/-- a new list and a new dict become a pot -/
theorem World.joinPot {a : Addr} {v : V} {g : List Int} {m t : Int} (hP : P.tp = potP) (w : World P B G F ((.lst .frz, .list (g.map PyData.int), some v) :: (.dK, .dict [], some (.ref a)) :: es) H) :
    ∃ b, v = .ref b ∧ H a = some (.dK []) ∧ World P B G F ((.tape, potV g m t, some (.ref a)) :: es) (upd H a (.dK (potKs b m t))) := by
  obtain ⟨S, h, nd, k⟩ := w.ents
  cases h with
  | cons x r =>
    rename_i Sa Sr
    cases r with
    | cons y r =>
      rename_i Sb Sq
      cases x with
      | held x =>
        cases y with
        | held y =>
          cases x with
          | @lst _ b vs _ S1 eb rs =>
              obtain ⟨rq, eS⟩ := rs.of_frz
              subst eS
              have evs := rq.ints
              subst evs
              cases y with
              | dK ea rk =>
                cases rk
                have ka := k a (by simp)
                have nd1 : (b :: a :: Sq).Nodup := nd
                have hba : b ≠ a := fun z => by subst z; simp at nd1
                have naq : a ∉ Sq := (List.nodup_cons.mp (List.nodup_cons.mp nd1).2).1
                have nbq : b ∉ Sq := fun z => (List.nodup_cons.mp nd1).1 (List.mem_cons_of_mem _ z)
                have rp : P.tp.rep (upd H a (.dK (potKs b m t))) a (potV g m t) [a, b] := by
                  rw [hP]
                  exact ⟨g, m, t, b, rfl, upd_same, by rw [upd_ne hba]; exact eb, rfl⟩
                have st : Stay F H (upd H a (.dK (potKs b m t))) := Stay.write ea trivial ka.1
                refine ⟨b, rfl, ea, ⟨[a, b] ++ Sq, .cons (.held (.tape rp)) (r.stay st (fun _ z => z) fun c hc => upd_ne fun z => naq (z ▸ hc)), ?_, fun c hc => k c ?_⟩, w.fG, fun c z => ?_, w.gB, fun c o e => ?_⟩
                · exact List.nodup_cons.mpr ⟨fun z => by
                    rcases List.mem_cons.mp z with z | z
                    · exact hba z.symm
                    · exact naq z, List.nodup_cons.mpr ⟨nbq, (List.nodup_cons.mp (List.nodup_cons.mp nd1).2).2⟩⟩
                · have hc : c ∈ a :: b :: Sq := hc
                  show c ∈ b :: a :: Sq
                  rcases List.mem_cons.mp hc with z | z
                  · rw [z]; simp
                  · rcases List.mem_cons.mp z with z | z
                    · rw [z]; simp
                    · simp [z]
                · obtain ⟨o, e⟩ := w.fH c z
                  exact ⟨o, st c o e (.inl z)⟩
                · rw [upd_ne (fun z => by subst z; rw [ka.2.2] at e; cases e)]
                  exact w.base c o e
end
def isInts : List D → Bool
  | [] => true
  | .int _ :: ds => isInts ds
  | _ :: _ => false
theorem isInts_ex : ∀ {ds : List D}, isInts ds = true → ∃ g : List Int, ds = g.map PyData.int
  | [], _ => ⟨[], rfl⟩
  | .int i :: ds, h => by
    obtain ⟨g, e⟩ := isInts_ex (ds := ds) h
    exact ⟨i :: g, by rw [e]; rfl⟩
  | .none :: _, h => nomatch h
  | .bool _ :: _, h => nomatch h
  | .str _ :: _, h => nomatch h
  | .tuple _ :: _, h => nomatch h
  | .list _ :: _, h => nomatch h
  | .dict _ :: _, h => nomatch h
theorem isInts_of : ∀ (g : List Int), isInts (g.map PyData.int) = true
  | [] => rfl
  | _ :: g => isInts_of g
/-- {'great': [..], 'stirred': e, 'turn': 0} -/
def potNewK (ρ : Env') : D → D → R (D × Env')
  | .list ds, .int m => if isInts ds = true then .ok (.tuple [.list ds, .int m, .int 0], ρ) else .bad
  | _, _ => .bad
def potNewF (fc fe : Fn') : Fn' := fun ρ => fc ρ >>= fun x => fe x.2 >>= fun y => potNewK y.2 x.1 y.1
section
variable {X : Cx} {P : Par2} {pv : List (Nat × V)} {M Mt Mn : List Md} {W : WX} {k : Nat} {J : Sg}
theorem TO.potNew {e1 e2 e3 ec ea ez : Expr} {fc fe : Fn'} {pos : Pos} (hP : P.tp = potP) (he1 : PE X e1 (tC (.str "great"))) (he2 : PE X e2 (tC (.str "stirred"))) (he3 : PE X e3 (tC (.str "turn"))) (hc : TO X P pv M W ec (.tm (.lst .frz)) fc) (ha : TO X P pv M W ea (.tm .frz) fe) (hz : PE X ez (tC (.int 0))) :
    TO X P pv M W (.Dict [some e1, some e2, some e3] [ec, ea, ez] pos) (.tm .tape) (potNewF fc fe) :=
  ⟨(pe_disp (pps_cons he1 hc.pe (pps_cons he2 ha.pe (pps_cons he3 hz pps_nil))) rfl rfl (by simp) (show 3 ≤ 15 by decide)).imp fun σ H Q ⟨B, G, F, ρ, ts, s, kk⟩ => by
    intro p hp
    have s0 : Stt P B G F pv M ρ σ ((.dK, .dict [], some (.ref p)) :: ts) (upd H p (.dK [])) := s.to (World.dK0 s.w hp)
    refine ⟨B, G, F, ρ, _, s0, ?_⟩
    have kk : Post P B G F pv M σ ts (.tm .tape) W Q (fc ρ >>= fun x => fe x.2 >>= fun y => potNewK y.2 x.1 y.1) := kk
    cases e1 : fc ρ with
    | bad => rw [e1] at kk; exact kk
    | exc c xs ρ' =>
      rw [e1] at kk
      exact fun cls dx H' F' s' hx hF' => kk cls dx H' F' s'.drop1 hx hF'
    | ok x =>
      obtain ⟨d, ρ1⟩ := x
      rw [e1] at kk
      intro v H1 F1 s1 _ hF1
      have s1 : Stt P B G F1 pv M ρ1 σ ((.lst .frz, d, some v) :: (.dK, .dict [], some (.ref p)) :: ts) H1 := s1
      refine ⟨B, G, F1, ρ1, _, s1, ?_⟩
      have kk : Post P B G F pv M σ ts (.tm .tape) W Q (fe ρ1 >>= fun y => potNewK y.2 d y.1) := kk
      cases e2 : fe ρ1 with
      | bad => rw [e2] at kk; exact kk
      | exc c xs ρ' =>
        rw [e2] at kk
        exact fun cls dx H' F' s' hx hF' => kk cls dx H' F' s'.drop1.drop1 hx fun a z => hF' a (hF1 a z)
      | ok y =>
        obtain ⟨d2, ρ2⟩ := y
        rw [e2] at kk
        intro v2 H2 F2 s2 _ hF2
        have s2 : Stt P B G F2 pv M ρ2 σ ((.frz, d2, some v2) :: (.lst .frz, d, some v) :: (.dK, .dict [], some (.ref p)) :: ts) H2 := s2
        have r1 := s2.w.rf_frz (d := d2) (v := v2) List.mem_cons_self
        have kk : Post P B G F pv M σ ts (.tm .tape) W Q (potNewK ρ2 d d2) := kk
        cases d with
        | list ds =>
          cases r1 with
          | int m =>
            have kk : Post P B G F pv M σ ts (.tm .tape) W Q (if isInts ds = true then .ok (.tuple [.list ds, .int m, .int 0], ρ2) else .bad) := kk
            by_cases hi : isInts ds = true
            · rw [if_pos hi] at kk
              obtain ⟨g, rfl⟩ := isInts_ex hi
              obtain ⟨b, rfl, ep, w4⟩ := World.joinPot (m := m) (t := 0) hP s2.drop1.w
              exact ⟨ep, [(.inr "great", .ref b), (.inr "stirred", .int m), (.inr "turn", .int 0)], rfl, (show 3 ≤ 15 by decide), kk (.ref p) _ F2 (s2.to w4) trivial fun a z => hF2 a (hF1 a z)⟩
            · rw [if_neg hi] at kk; exact kk.elim
          | _ => exact kk.elim
        | _ => exact kk.elim, fun _ z => nomatch z⟩
/-- len(script) -/
theorem TO.lenScr {o : Expr} {i : Nat} {p pos : Pos} (C : CtxOk X P k) (hg : Gl X "len") (hm : X.mg "len" = none) (ho : PE X o (tVar i)) (hM : M[i]? = some .scr := by rfl) (he : starEach [o] X.env = (false, eval o X.env) :: starEach [] X.env := by rfl) : TO X P pv M W (.Call (.Name "len" p) [o] [] pos) (.tm .frz) (un1 lenD (rdVar i)) :=
  ⟨(pe_callB call_len_seq hg hm bt_len (pa_cons ho pa_nil he) (by decide) (by decide) he rfl).imp fun σ H Q ⟨B, G, F, ρ, ts, s, kk⟩ => by
    obtain ⟨a, ns, ev, ed, hq⟩ := s.scr hM
    refine ⟨.ref a, ev, a, ns.map V.int, rfl, .inl (by rw [C.hK]; exact hq), ?_⟩
    have kk : Post P B G F pv M σ ts (.tm .frz) W Q (ofO ((lenD (ρ.getD i .none)).map fun z => (z, ρ))) := kk
    rw [ed] at kk
    have kk : Post P B G F pv M σ ts (.tm .frz) W Q (.ok (.int ((ns.map PyData.int).length : Nat), ρ)) := kk
    have e : (ns.map V.int).length = (ns.map PyData.int).length := by simp
    rw [e]
    exact kk _ H F (s.push (.int _)) trivial fun _ z => z, fun _ z => nomatch z⟩
theorem tg_ch {Mt : List Md} {ch ch' : List Nat} {tg : Expr} {g : TG} {b : Bd} (h : TTg X P pv M Mt ch tg g b) (e : ch = ch' := by rfl) : TTg X P pv M Mt ch' tg g b := e ▸ h
theorem tg_tupP {Mt : List Md} {ch : List Nat} {es : List Expr} {kk n : Nat} {gs : TGs} {c : Bds} {pos : Pos} (C : CtxOk X P k) (h : TTgs X P pv M Mt ch es gs c) (hn : (assignEach es X.env).length = n := by rfl) (hst : (assignEach es X.env).findIdx? (·.1) = none := by rfl) :
    TTg X P pv M Mt ch (.Tuple es kk pos) (gSeq P.K n gs) (tupB n c) := by
  have := tg_tup (pos := pos) (kk := kk) C h hn hst
  rw [C.hK] at this
  exact this
/-- a module's number -/
theorem pe_cst {X : Cx} {x : Str} {n : Int} {pos : Pos} (hg : Gl X x) (hm : ∃ t, X.mg x = some (.int n t)) (hd : (x == ("__debug__" : Str)) = false := by decide) : PE X (.Name x pos) (tC (.int n)) := by
  obtain ⟨t, e⟩ := hm
  exact pe_glob hg e ⟨t, rfl⟩ hd
end
end Z

set_option maxRecDepth 100000
set_option maxHeartbeats 1000000
namespace Z
open PySem PySem.Spec PyProof.Rows L2

/-! ### the bag of draws: a list of a list and two numbers -/
def bagVs (b : Addr) (x m : Int) : List V := [.ref b, .int x, .int m]
def bagV (g : List Int) (x m : Int) : D := .tuple [.list (g.map PyData.int), .int x, .int m]
def bagRep (H : Hp) (a : Addr) (d : D) (S : List Addr) : Prop := ∃ (g : List Int) (x m : Int) (b : Addr), d = bagV g x m ∧ H a = some (.lst (bagVs b x m)) ∧ H b = some (.lst (g.map V.int)) ∧ S = [a, b]
def bagP : TapeP where
  rep := bagRep
  own := fun H a d S ⟨g, x, m, b, e, ea, eb, eS⟩ c hc => by
    subst eS
    rcases List.mem_cons.mp hc with rfl | hc
    · exact ⟨_, ea, trivial⟩
    · have : c = b := by simpa using hc
      subst this
      exact ⟨_, eb, trivial⟩
  frame := fun H H' a d S ⟨g, x, m, b, e, ea, eb, eS⟩ k => by
    subst eS
    exact ⟨g, x, m, b, e, by rw [k a (by simp)]; exact ea, by rw [k b (by simp)]; exact eb, rfl⟩
section
variable {X : Cx} {P : Par2} {pv : List (Nat × V)} {M Mt Mn : List Md} {W : WX} {k : Nat} {J : Sg}
theorem Stt.bag {B H : Hp} {G F : Addr → Prop} {ρ : Env'} {σ : L2.St} {ts : List Ent} {i : Nat} (hP : P.tp = bagP) (s : Stt P B G F pv M ρ σ ts H) (hm : M[i]? = some .tape) :
    ∃ a b g x m, σ[i]? = some (some (.ref a)) ∧ ρ.getD i .none = bagV g x m ∧ H a = some (.lst (bagVs b x m)) ∧ H b = some (.lst (g.map V.int)) ∧ a ≠ b := by
  obtain ⟨v, e, q⟩ := s.slot hm (by decide)
  have w := take_slot s.w hm s.lr s.ls
  rw [getD_of e] at w
  obtain ⟨a, S, ev, rp, nd⟩ := w.tapeAt
  rw [hP] at rp
  obtain ⟨g, x, m, b, ed, ea, eb, eS⟩ := rp
  subst ev eS
  exact ⟨a, b, g, x, m, e, ed, ea, eb, fun z => by subst z; simp at nd⟩
theorem Stt.bagTo {B H H' : Hp} {G F : Addr → Prop} {ρ : Env'} {σ : L2.St} {ts : List Ent} {i : Nat} {a b : Addr} {g' : List Int} {x m x' m' : Int} (hP : P.tp = bagP) (s : Stt P B G F pv M ρ σ ts H) (hm : M[i]? = some .tape) (ev : σ[i]? = some (some (.ref a))) (ea : H a = some (.lst (bagVs b x m)))
    (ea' : H' a = some (.lst (bagVs b x' m'))) (eb' : H' b = some (.lst (g'.map V.int))) (same : ∀ c, c ≠ a → c ≠ b → H' c = H c) : Stt P B G F pv M (ρ.set i (bagV g' x' m')) σ ts H' := by
  have w := take_slot s.w hm s.lr s.ls
  rw [getD_of ev] at w
  have w2 := w.retape (H' := H') (d' := bagV g' x' m') fun S rp nd => by
    rw [hP] at rp ⊢
    obtain ⟨g0, x0, m0, b0, ed, e1, e2, eS⟩ := rp
    rw [ea] at e1
    have eb0 : b0 = b := by
      have : bagVs b x m = bagVs b0 x0 m0 := by
        injection e1 with e1
        injection e1
      simp [bagVs] at this
      exact this.1.symm
    subst eb0 eS
    exact ⟨⟨g', x', m', b0, rfl, ea', eb', rfl⟩, fun c hc => same c (fun z => hc (by simp [z])) fun z => hc (by simp [z])⟩
  have w4 := put_slot (d := bagV g' x' m') (by rw [getD_of ev]; exact w2) hm s.lr s.ls
  exact ⟨w4, by simpa using s.lr, s.ls, s.pv⟩
/-- bag[1], bag[2] -/
def bagGetD (n : Int) : D → Option D
  | .tuple [.list _, .int x, .int m] => if n = 1 then some (.int x) else if n = 2 then some (.int m) else none
  | _ => none
theorem TO.bagGet {o e : Expr} {i : Nat} {n : Int} {pos : Pos} (hP : P.tp = bagP) (C : CtxOk X P k) (ho : PE X o (tVar i)) (he : PE X e (tC (.int n))) (hs : PlainIx e) (hm : M[i]? = some .tape := by rfl) : TO X P pv M W (.Subscript o e pos) (.tm .frz) (tapeF i (bagGetD n)) :=
  ⟨(pe_ix ix_list ho he hs).imp fun σ H Q ⟨B, G, F, ρ, ts, s, kk⟩ => by
    obtain ⟨a, b, g, x, m, ev, ed, ea, eb, ne⟩ := s.bag hP hm
    unfold tapeF at kk
    rw [ed] at kk
    by_cases h1 : n = 1
    · subst h1
      refine ⟨.ref a, ev, a, bagVs b x m, 1, .int x, rfl, rfl, SqL.of ea, rfl, ?_⟩
      exact kk (.int x) H F (s.push (.int x)) trivial fun _ z => z
    · by_cases h2 : n = 2
      · subst h2
        refine ⟨.ref a, ev, a, bagVs b x m, 2, .int m, rfl, rfl, SqL.of ea, rfl, ?_⟩
        exact kk (.int m) H F (s.push (.int m)) trivial fun _ z => z
      · have : bagGetD n (bagV g x m) = none := by
          show (if n = 1 then some (PyData.int x) else if n = 2 then some (PyData.int m) else none) = none
          rw [if_neg h1, if_neg h2]
        rw [this] at kk
        exact kk.elim, fun _ z => nomatch z⟩
/-- bag[0] != [], bag[0] == [] -/
def bagHasD : D → Option D
  | .tuple [.list ds, .int _, .int _] => some (.bool (!ds.isEmpty))
  | _ => none
def bagNoD : D → Option D
  | .tuple [.list ds, .int _, .int _] => some (.bool ds.isEmpty)
  | _ => none
theorem bagHas_ops {i : Nat} {σ : L2.St} {H : Hp} {Q : VK} (hP : P.tp = bagP) (C : CtxOk X P k) (hm : M[i]? = some .tape) (h : tO P pv M (.tm .frz) W (tapeF i bagHasD) σ H Q) : tOp (rNeD X.K) (tOp (rIxL X.K) (tVar i) (tC (.int 0))) (tLst tNil) σ H Q := by
    obtain ⟨B, G, F, ρ, ts, s, kk⟩ := h
    obtain ⟨a, b, g, x, m, ev, ed, ea, eb, ne⟩ := s.bag hP hm
    refine ⟨.ref a, ev, a, bagVs b x m, 0, .ref b, rfl, rfl, SqL.of ea, rfl, Nat.zero_le _, fun p hp => ?_⟩
    unfold tapeF at kk
    rw [ed] at kk
    have hbp : b ≠ p := fun z => by rw [z, hp] at eb; cases eb
    refine ⟨.list (g.map PyData.int), .list [], ?_, ?_, PySem.W.ke_shaped_ints g, by decide, ?_⟩
    · have r : RFs P.toPar (upd H p (.lst [])) F (g.map V.int) (g.map PyData.int) := RFs.of_ints g
      exact .lst (SqL.of (by rw [upd_ne hbp]; exact eb)) (by rw [C.hK]; exact r.dp (SeqAt.canLay_of_shaped (PySem.W.ke_shaped_ints g)))
    · exact .lst (SqL.of upd_same) .nil
    · have e : PyData.eqv (.list (g.map PyData.int)) (.list []) = (g.map PyData.int).isEmpty := by
        cases g <;> rfl
      rw [e]
      have s2 : Stt P B G F pv M ρ σ ts (upd H p (.lst [])) := s.to (s.w.heap_alloc hp)
      exact kk (.bl _) _ F (s2.push (.bl _)) trivial fun _ z => z
theorem bagNo_ops {i : Nat} {σ : L2.St} {H : Hp} {Q : VK} (hP : P.tp = bagP) (C : CtxOk X P k) (hm : M[i]? = some .tape) (h : tO P pv M (.tm .frz) W (tapeF i bagNoD) σ H Q) : tOp (rEqD X.K) (tOp (rIxL X.K) (tVar i) (tC (.int 0))) (tLst tNil) σ H Q := by
    obtain ⟨B, G, F, ρ, ts, s, kk⟩ := h
    obtain ⟨a, b, g, x, m, ev, ed, ea, eb, ne⟩ := s.bag hP hm
    refine ⟨.ref a, ev, a, bagVs b x m, 0, .ref b, rfl, rfl, SqL.of ea, rfl, Nat.zero_le _, fun p hp => ?_⟩
    unfold tapeF at kk
    rw [ed] at kk
    have hbp : b ≠ p := fun z => by rw [z, hp] at eb; cases eb
    refine ⟨.list (g.map PyData.int), .list [], ?_, ?_, PySem.W.ke_shaped_ints g, by decide, ?_⟩
    · have r : RFs P.toPar (upd H p (.lst [])) F (g.map V.int) (g.map PyData.int) := RFs.of_ints g
      exact .lst (SqL.of (by rw [upd_ne hbp]; exact eb)) (by rw [C.hK]; exact r.dp (SeqAt.canLay_of_shaped (PySem.W.ke_shaped_ints g)))
    · exact .lst (SqL.of upd_same) .nil
    · have e : PyData.eqv (.list (g.map PyData.int)) (.list []) = (g.map PyData.int).isEmpty := by
        cases g <;> rfl
      rw [e]
      have s2 : Stt P B G F pv M ρ σ ts (upd H p (.lst [])) := s.to (s.w.heap_alloc hp)
      exact kk (.bl _) _ F (s2.push (.bl _)) trivial fun _ z => z
theorem TO.bagHas {o e : Expr} {i : Nat} {pos pos1 pos2 : Pos} (hP : P.tp = bagP) (C : CtxOk X P k) (ho : PE X o (tVar i)) (he : PE X e (tC (.int 0))) (hs : PlainIx e) (hm : M[i]? = some .tape := by rfl) : TO X P pv M W (.Compare (.Subscript o e pos1) [.NotEq] [.List [] pos2] pos) (.tm .frz) (tapeF i bagHasD) :=
  ⟨(pe_cmpR (op_neD (by have := C.hr.un; omega)) (pe_ix ix_list ho he hs) (pe_lst pa_nil) rfl).imp fun σ H Q h => bagHas_ops hP C hm h, fun _ z => nomatch z⟩
theorem tt_bagHas {o e : Expr} {i : Nat} {pos pos1 pos2 : Pos} (hP : P.tp = bagP) (C : CtxOk X P k) (ho : PE X o (tVar i)) (he : PE X e (tC (.int 0))) (hs : PlainIx e) (hm : M[i]? = some .tape := by rfl) : PT X (.Compare (.Subscript o e pos1) [.NotEq] [.List [] pos2] pos) (tT P pv M W (tapeF i bagHasD)) :=
  (pt_cmpR (op_neD (by have := C.hr.un; omega)) (pe_ix ix_list ho he hs) (pe_lst pa_nil) rfl).imp fun σ H Q h => bagHas_ops hP C hm (tT_tO h)
theorem TO.bagNo {o e : Expr} {i : Nat} {pos pos1 pos2 : Pos} (hP : P.tp = bagP) (C : CtxOk X P k) (ho : PE X o (tVar i)) (he : PE X e (tC (.int 0))) (hs : PlainIx e) (hm : M[i]? = some .tape := by rfl) : TO X P pv M W (.Compare (.Subscript o e pos1) [.Eq] [.List [] pos2] pos) (.tm .frz) (tapeF i bagNoD) :=
  ⟨(pe_cmpR (op_eqD (by have := C.hr.un; omega)) (pe_ix ix_list ho he hs) (pe_lst pa_nil) rfl).imp fun σ H Q h => bagNo_ops hP C hm h, fun _ z => nomatch z⟩
theorem tt_bagNo {o e : Expr} {i : Nat} {pos pos1 pos2 : Pos} (hP : P.tp = bagP) (C : CtxOk X P k) (ho : PE X o (tVar i)) (he : PE X e (tC (.int 0))) (hs : PlainIx e) (hm : M[i]? = some .tape := by rfl) : PT X (.Compare (.Subscript o e pos1) [.Eq] [.List [] pos2] pos) (tT P pv M W (tapeF i bagNoD)) :=
  (pt_cmpR (op_eqD (by have := C.hr.un; omega)) (pe_ix ix_list ho he hs) (pe_lst pa_nil) rfl).imp fun σ H Q h => bagNo_ops hP C hm (tT_tO h)
/-- bag[0].pop() -/
def bagPopF (i : Nat) : Fn' := fun ρ => match ρ.getD i .none with
  | .tuple [.list ds, .int x, .int m] => (match ds[ds.length - 1]? with
    | some d => .ok (d, ρ.set i (.tuple [.list ds.dropLast, .int x, .int m]))
    | none => .bad)
  | _ => .bad
theorem TO.bagPop {o e : Expr} {i : Nat} {pos pos1 apos : Pos} (hP : P.tp = bagP) (C : CtxOk X P k) (ho : PE X o (tVar i)) (he : PE X e (tC (.int 0))) (hs : PlainIx e) (hm : M[i]? = some .tape := by rfl)
    (hbase : attributeBase (.Subscript o e pos1) "pop" X.env (eval (.Subscript o e pos1) X.env) = eval (.Subscript o e pos1) X.env := by rfl) (hline : (apos.endLine == pos.line) = true := by rfl) : TO X P pv M W (.Call (.Attribute (.Subscript o e pos1) "pop" apos) [] [] pos) (.tm .frz) (bagPopF i) :=
  ⟨(pe_bm0 PySem.F.plainAttrs_list PySem.F.slot_list_pop PySem.F.type_list_pop mt_pop (pe_ix ix_list ho he hs) hbase hline).imp fun σ H Q ⟨B, G, F, ρ, ts, s, kk⟩ => by
    obtain ⟨a, b, g, x, m, ev, ed, ea, eb, ne⟩ := s.bag hP hm
    refine ⟨.ref a, ev, a, bagVs b x m, 0, .ref b, rfl, rfl, SqL.of ea, rfl, .inl ⟨rfl, _, SqL.of eb⟩, ?_⟩
    unfold bagPopF at kk
    rw [ed] at kk
    have kk : Post P B G F pv M σ ts (.tm .frz) W Q (match (g.map PyData.int)[(g.map PyData.int).length - 1]? with
      | some d => .ok (d, ρ.set i (.tuple [.list (g.map PyData.int).dropLast, .int x, .int m]))
      | none => .bad) := kk
    rw [List.length_map, List.getElem?_map] at kk
    cases eg : g[g.length - 1]? with
    | none => rw [eg] at kk; exact kk.elim
    | some y =>
      rw [eg] at kk
      have kk : Post P B G F pv M σ ts (.tm .frz) W Q (.ok (.int y, ρ.set i (.tuple [.list (g.map PyData.int).dropLast, .int x, .int m]))) := kk
      rw [← List.map_dropLast] at kk
      refine ⟨b, g.map V.int, .int y, rfl, rfl, eb, by rw [List.length_map, List.getElem?_map, eg]; rfl, ?_⟩
      rw [← List.map_dropLast]
      have s2 := s.bagTo (g' := g.dropLast) (x' := x) (m' := m) (H' := upd H b (.lst (g.dropLast.map V.int))) hP hm ev ea (by rw [upd_ne ne]; exact ea) upd_same fun c h1 h2 => upd_ne h2
      exact kk (.int y) _ F (s2.push (.int y)) trivial fun _ z => z, fun _ z => nomatch z⟩
/-- bag[1] = e, bag[2] = e -/
def bagSetK (i : Nat) (n : Int) (ρ : Env') : D → D → R Fl
  | .tuple [.list ds, .int x, .int m], .int y => if n = 1 then .ok (.nx (ρ.set i (.tuple [.list ds, .int y, .int m]))) else if n = 2 then .ok (.nx (ρ.set i (.tuple [.list ds, .int x, .int y]))) else .bad
  | _, _ => .bad
def bagSetF (i : Nat) (n : Int) (fe : Fn') : FnS := fun ρ => fe ρ >>= fun x => bagSetK i n x.2 (x.2.getD i .none) x.1
theorem st_bagSet {o e a : Expr} {i : Nat} {n : Int} {fe : Fn'} {pos p2 : Pos} (hP : P.tp = bagP) (C : CtxOk X P k) (ha : TO X P J.pv M J.W a (.tm .frz) fe) (ho : PE X o (tVar i)) (he : PE X e (tC (.int n))) (hm : M[i]? = some .tape := by rfl) (hx : leM M J.Mx = true := by rfl)
    (hav : ∀ v, assign (.Subscript o e p2) X.env v = (do
      let ov ← holding [v] (eval o X.env)
      let iv ← holding [v, ov] (eval e X.env)
      standAt p2
      holding [v, ov, iv] (setItem ov iv v)
      release [v, ov, iv] []) := by intro _; rfl)
    (hs : swapsWithSole [.Subscript o e p2] a pos.line X.env = pure false := by rfl) (hw : swappedStores [.Subscript o e p2] a X.env = pure none := by rfl) (h1 : (assignEach [.Subscript o e p2] X.env).map (·.2) = [assign (.Subscript o e p2) X.env] := by rfl) :
    PS X (.Assign [.Subscript o e p2] a pos) (tS P J M M (bagSetF i n fe)) :=
  (ps_asg ha.pe (pg_sub ho he set_list hav) hs hw h1).imp fun E σ H ⟨B, G, F, ρ, ts, s, kk⟩ => by
    have kk : PostS P J B G F ts M E (fe ρ >>= fun x => bagSetK i n x.2 (x.2.getD i .none) x.1) := kk
    refine ⟨B, G, F, ρ, ts, s, ?_⟩
    cases e1 : fe ρ with
    | bad => rw [e1] at kk; exact kk.elim
    | exc c xs ρ' =>
      rw [e1] at kk
      exact fun cls dx H' F' s' hx' hF' => kk cls dx σ H' F' (s'.le hx) hx' hF'
    | ok z =>
      obtain ⟨d, ρ1⟩ := z
      rw [e1] at kk
      intro v H1 F1 s1 _ hF1
      have s1 : Stt P B G F1 J.pv M ρ1 σ ((.frz, d, some v) :: ts) H1 := s1
      obtain ⟨da, b, g, x, m, ev, ed, ea, eb, ne⟩ := s1.bag hP hm
      have kk : PostS P J B G F ts M E (bagSetK i n ρ1 (ρ1.getD i .none) d) := kk
      rw [ed] at kk
      have r1 := s1.w.rf_frz (d := d) (v := v) List.mem_cons_self
      cases r1 with
      | int y =>
        have kk : PostS P J B G F ts M E (if n = 1 then .ok (.nx (ρ1.set i (bagV g y m))) else if n = 2 then .ok (.nx (ρ1.set i (bagV g x y))) else .bad) := kk
        refine ⟨.ref da, ev, ?_⟩
        by_cases h1 : n = 1
        · subst h1
          rw [if_pos rfl] at kk
          have s3 := s1.bagTo (g' := g) (x' := y) (m' := m) (H' := upd H1 da (.lst (bagVs b y m))) hP hm ev ea upd_same (by rw [upd_ne (Ne.symm ne)]; exact eb) fun c h1 h2 => upd_ne h1
          exact ⟨da, bagVs b x m, 1, 1, rfl, rfl, ea, rfl, kk σ _ F1 s3.drop1 hF1⟩
        · rw [if_neg h1] at kk
          by_cases h2 : n = 2
          · subst h2
            rw [if_pos rfl] at kk
            have s3 := s1.bagTo (g' := g) (x' := x) (m' := y) (H' := upd H1 da (.lst (bagVs b x y))) hP hm ev ea upd_same (by rw [upd_ne (Ne.symm ne)]; exact eb) fun c h1 h2 => upd_ne h1
            exact ⟨da, bagVs b x m, 2, 2, rfl, rfl, ea, rfl, kk σ _ F1 s3.drop1 hF1⟩
          · rw [if_neg h2] at kk; exact kk.elim
      | _ => exact kk.elim
end
section
variable {P : Par} {B H : Hp} {G F : Addr → Prop} {es : List Ent}
/-- a new list of a list and two numbers is a bag -/
theorem World.joinBag {p : Addr} {v : V} {g : List Int} {x m : Int} (hP : P.tp = bagP) (w : World P B G F ((.lst .frz, .list (g.map PyData.int), some v) :: es) H) (hp : H p = none) :
    ∃ b, v = .ref b ∧ World P B G F ((.tape, bagV g x m, some (.ref p)) :: es) (upd H p (.lst (bagVs b x m))) := by
  obtain ⟨S, h, nd, k⟩ := w.ents
  cases h with
  | cons y r =>
    rename_i Sa Sr
    cases y with
    | held y =>
      cases y with
      | @lst _ b vs _ S1 eb rs =>
        obtain ⟨rq, eS⟩ := rs.of_frz
        subst eS
        have evs := rq.ints
        subst evs
        have kb := k b (by simp)
        have nd1 : (b :: Sr).Nodup := nd
        have nbr : b ∉ Sr := (List.nodup_cons.mp nd1).1
        have hbp : b ≠ p := fun z => by rw [z, hp] at eb; cases eb
        have npr : p ∉ Sr := fun z => by
          obtain ⟨o, e, _⟩ := r.own p z
          rw [hp] at e; cases e
        have rp : P.tp.rep (upd H p (.lst (bagVs b x m))) p (bagV g x m) [p, b] := by
          rw [hP]
          exact ⟨g, x, m, b, rfl, upd_same, by rw [upd_ne hbp]; exact eb, rfl⟩
        have sm : Same H (upd H p (.lst (bagVs b x m))) := Same.alloc hp
        refine ⟨b, rfl, ⟨[p, b] ++ Sr, .cons (.held (.tape rp)) (r.stay (Stay.same sm) (fun _ z => z) fun c hc => upd_ne fun z => npr (z ▸ hc)), ?_, fun c hc => ?_⟩, w.fG, fun c z => ?_, w.gB, fun c o e => sm c o (w.base c o e)⟩
        · exact List.nodup_cons.mpr ⟨fun z => by
            rcases List.mem_cons.mp z with z | z
            · exact hbp z.symm
            · exact npr z, List.nodup_cons.mpr ⟨nbr, (List.nodup_cons.mp nd1).2⟩⟩
        · have hc : c ∈ p :: b :: Sr := hc
          rcases List.mem_cons.mp hc with z | z
          · subst z
            refine ⟨fun z => ?_, fun z => ?_, ?_⟩
            · obtain ⟨o, e⟩ := w.fH c z
              rw [hp] at e; cases e
            · obtain ⟨o, e⟩ := w.gB c z
              have := w.base c o e
              rw [hp] at this; cases this
            · cases e : B c with
              | none => rfl
              | some o =>
                have := w.base c o e
                rw [hp] at this; cases this
          · exact k c z
        · obtain ⟨o, e⟩ := w.fH c z
          exact ⟨o, sm c o e⟩
end
section
variable {X : Cx} {P : Par2} {pv : List (Nat × V)} {M Mt Mn : List Md} {W : WX} {k : Nat} {J : Sg}
/-- [[..], 0, e] -/
def bagNewK (ρ : Env') : D → D → R (D × Env')
  | .list ds, .int m => if isInts ds = true then .ok (.tuple [.list ds, .int 0, .int m], ρ) else .bad
  | _, _ => .bad
def bagNewF (fc fe : Fn') : Fn' := fun ρ => fc ρ >>= fun x => fe x.2 >>= fun y => bagNewK y.2 x.1 y.1
theorem TO.bagNew {ec ea ez : Expr} {fc fe : Fn'} {pos : Pos} (hP : P.tp = bagP) (hc : TO X P pv M W ec (.tm (.lst .frz)) fc) (hz : PE X ez (tC (.int 0))) (ha : TO X P pv M W ea (.tm .frz) fe)
    (h1 : starEach [ec, ez, ea] X.env = (false, eval ec X.env) :: starEach [ez, ea] X.env := by rfl) (h2 : starEach [ez, ea] X.env = (false, eval ez X.env) :: starEach [ea] X.env := by rfl) (h3 : starEach [ea] X.env = (false, eval ea X.env) :: starEach [] X.env := by rfl) :
    TO X P pv M W (.List [ec, ez, ea] pos) (.tm .tape) (bagNewF fc fe) :=
  ⟨(pe_lst (pa_cons hc.pe (pa_cons hz (pa_cons ha.pe pa_nil h3) h2) h1)).imp fun σ H Q ⟨B, G, F, ρ, ts, s, kk⟩ => by
    refine ⟨B, G, F, ρ, ts, s, ?_⟩
    have kk : Post P B G F pv M σ ts (.tm .tape) W Q (fc ρ >>= fun x => fe x.2 >>= fun y => bagNewK y.2 x.1 y.1) := kk
    cases e1 : fc ρ with
    | bad => rw [e1] at kk; exact kk
    | exc c xs ρ' =>
      rw [e1] at kk
      exact fun cls dx H' F' s' hx hF' => kk cls dx H' F' s' hx hF'
    | ok x =>
      obtain ⟨d, ρ1⟩ := x
      rw [e1] at kk
      intro v H1 F1 s1 _ hF1
      have s1 : Stt P B G F1 pv M ρ1 σ ((.lst .frz, d, some v) :: ts) H1 := s1
      refine ⟨B, G, F1, ρ1, _, s1, ?_⟩
      have kk : Post P B G F pv M σ ts (.tm .tape) W Q (fe ρ1 >>= fun y => bagNewK y.2 d y.1) := kk
      cases e2 : fe ρ1 with
      | bad => rw [e2] at kk; exact kk
      | exc c xs ρ' =>
        rw [e2] at kk
        exact fun cls dx H' F' s' hx hF' => kk cls dx H' F' s'.drop1 hx fun a z => hF' a (hF1 a z)
      | ok y =>
        obtain ⟨d2, ρ2⟩ := y
        rw [e2] at kk
        intro v2 H2 F2 s2 _ hF2
        have s2 : Stt P B G F2 pv M ρ2 σ ((.frz, d2, some v2) :: (.lst .frz, d, some v) :: ts) H2 := s2
        have r1 := s2.w.rf_frz (d := d2) (v := v2) List.mem_cons_self
        have kk : Post P B G F pv M σ ts (.tm .tape) W Q (bagNewK ρ2 d d2) := kk
        cases d with
        | list ds =>
          cases r1 with
          | int m =>
            have kk : Post P B G F pv M σ ts (.tm .tape) W Q (if isInts ds = true then .ok (.tuple [.list ds, .int 0, .int m], ρ2) else .bad) := kk
            by_cases hi : isInts ds = true
            · rw [if_pos hi] at kk
              obtain ⟨g, rfl⟩ := isInts_ex hi
              refine ⟨(show 3 ≤ sizeLine by rw [sizeLine_eq]; decide), fun p hp => ?_⟩
              obtain ⟨b, rfl, w4⟩ := World.joinBag (x := 0) (m := m) hP s2.drop1.w hp
              exact kk (.ref p) _ F2 (s2.to w4) trivial fun a z => hF2 a (hF1 a z)
            · rw [if_neg hi] at kk; exact kk.elim
          | _ => exact kk.elim
        | _ => exact kk.elim, fun _ z => nomatch z⟩
end
end Z

set_option maxRecDepth 100000
set_option maxHeartbeats 1000000
namespace Z
open PySem PySem.Spec PyProof.Rows L2

/-! ### list(range(i, j, -1)) -/
def dnV (a b : Int) : List V := (List.range (a - b).toNat).map fun i => V.int (a - (i : Nat))
def dnD (a b : Int) : List D := (List.range (a - b).toNat).map fun (i : Nat) => PyData.int (a - (i : Nat))
theorem dnV_length (a b : Int) : (dnV a b).length = (a - b).toNat := by unfold dnV; rw [List.length_map, List.length_range]
theorem vals_dn {a b : Int} {acc : Array Value} (h : ItemsOf (fun i v => ∃ t, v = .int (a + i * (-1)) t) acc (a - b).toNat) : Vals (dnV a b) acc.toList := by
  have e : acc.toList.length = (a - b).toNat := by rw [Array.length_toList]; exact h.1
  unfold dnV
  rw [← e]
  refine vals_of_get acc.toList _ fun j u hj => ?_
  obtain ⟨t, rfl⟩ := h.2 j u (by rw [← hj, Array.getElem?_toList])
  exact ⟨t, by rw [show a - (j : Int) = a + (j : Int) * (-1) by omega]⟩
theorem dn_rfs {P : Par} {H : Hp} {F : Addr → Prop} (a b : Int) : RFs P H F (dnV a b) (dnD a b) := by
  have e1 : dnV a b = ((List.range (a - b).toNat).map fun (i : Nat) => a - (i : Int)).map V.int := by unfold dnV; rw [List.map_map]; rfl
  have e2 : dnD a b = ((List.range (a - b).toNat).map fun (i : Nat) => a - (i : Int)).map PyData.int := by unfold dnD; rw [List.map_map]; rfl
  rw [e1, e2]
  exact RFs.of_ints _
def tDn (t : TA) : TE := fun σ H Q => t σ H fun xs H1 => ∃ a b, xs = [.int a, .int b, .int (-1)] ∧ (-(2 ^ 62) ≤ a ∧ a < 2 ^ 62 ∧ -(2 ^ 62) ≤ b ∧ b < 2 ^ 62 ∧ (a - b).toNat ≤ 2 ^ 24) ∧ ∀ q, H1 q = none → Q (.ref q) (upd H1 q (.lst (dnV a b)))
section
variable {X : Cx}
theorem pe_listDn {a b c : Expr} {ta : TA} {p p2 pos pos2 : Pos} (hcm : X.calm = true) (hg : Gl X "list") (hm : X.mg "list" = none) (hg2 : Gl X "range") (hm2 : X.mg "range" = none) (ha : PA X [a, b, c] ta)
    (hs : starEach [a, b, c] X.env = (false, eval a X.env) :: starEach [b, c] X.env := by rfl) (hpl : (backTo pos2 (starEach [b, c] X.env)).any (·.1) = false := by rfl)
    (hs2 : starEach [.Call (.Name "range" p2) [a, b, c] [] pos2] X.env = (false, eval (.Call (.Name "range" p2) [a, b, c] [] pos2) X.env) :: starEach [] X.env := by rfl) :
    PE X (.Call (.Name "list" p) [.Call (.Name "range" p2) [a, b, c] [] pos2] [] pos) (tDn ta) := by
  refine ⟨fun pins s σ H Q I h => ?_⟩
  refine Call_ (ld_blt I hg hm boot_list (PyProof.Rows.callWith_type1 (args_cons (Call_ (ld_blt I hg2 hm2 boot_range (PyProof.Rows.callWith_type1 (thn (ha.run pos2 pins s σ H _ I h) fun us s1 ⟨vs, H1, I1, r1, q1⟩ => ?_) hs hpl))) hs2) hs2))
  obtain ⟨i, j, e, ⟨b1, b2, b3, b4, b5⟩, q⟩ := q1
  subst e
  cases r1 with
  | cons r rr =>
    cases rr with
    | cons r' rr =>
      cases rr with
      | cons r'' rr =>
        cases rr
        obtain ⟨t, rfl⟩ := r
        obtain ⟨t', rfl⟩ := r'
        obtain ⟨t'', rfl⟩ := r''
        refine call_range_3 (by decide) (args_nil ?_) (.inl (PyProof.noPylong_of_log2 (by decide +kernel)))
        have I2 : Inv X pins σ H1 { s1 with heap := s1.heap.push { cls := .type "range", data := .fields #[.int i t, .int j t', .int (-1) t''] }, toks := s1.toks } := I1.kept fun b u e => Heap.get?_push_of_some _ e
        refine call_list_range (n := (i - j).toNat) (I2.ok.hd hcm) (IsRange.new _ _ _ _ _ _ _) (PySem.W.small_down b1 b2 b3 b4) (PySem.W.rangeSize_downNat i j) b5 fun h' tk acc c' hk e' hi => ?_
        refine ⟨.ref _, upd H1 _ (.lst (dnV i j)), I2.laid hk (Nat.le_refl _) (show ObjOk X.prog X.w _ _ _ (.lst (dnV i j)) from ⟨?_, acc.toList, c', vals_dn hi, ?_⟩), rfl, q _ (I2.hok.fresh (Nat.le_refl _))⟩
        · rw [dnV_length, sizeLine_eq]; omega
        · rw [Array.toArray_toList]; exact e'
end
noncomputable def dnOk (a b : Int) : Bool := cb (-(2 ^ 62) ≤ a ∧ a < 2 ^ 62 ∧ -(2 ^ 62) ≤ b ∧ b < 2 ^ 62 ∧ (a - b).toNat ≤ 2 ^ 24)
noncomputable def dnL : List D → Option D
  | [.int i, .int j, .int k] => if k = -1 then if dnOk i j = true then some (.list (dnD i j)) else none else none
  | _ => none
section
variable {X : Cx} {P : Par2} {pv : List (Nat × V)} {M : List Md} {W : WX} {k : Nat}
theorem TO.lstDn {a b c : Expr} {fa : FnA} {p p2 pos pos2 : Pos} (C : CtxOk X P k) (hg : Gl X "list") (hm : X.mg "list" = none) (hg2 : Gl X "range") (hm2 : X.mg "range" = none) (ha : TAs X P pv M W [a, b, c] [.tm .frz, .tm .frz, .tm .frz] fa)
    (hs : starEach [a, b, c] X.env = (false, eval a X.env) :: starEach [b, c] X.env := by rfl) (hpl : (backTo pos2 (starEach [b, c] X.env)).any (·.1) = false := by rfl)
    (hs2 : starEach [.Call (.Name "range" p2) [a, b, c] [] pos2] X.env = (false, eval (.Call (.Name "range" p2) [a, b, c] [] pos2) X.env) :: starEach [] X.env := by rfl) :
    TO X P pv M W (.Call (.Name "list" p) [.Call (.Name "range" p2) [a, b, c] [] pos2] [] pos) (.tm (.lst .frz)) (mapA dnL fa) :=
  ⟨(pe_listDn C.hc hg hm hg2 hm2 ha.pa hs hpl hs2).imp fun σ H Q ⟨B, G, F, ρ, ts, s, kk⟩ => by
    refine ⟨B, G, F, ρ, ts, s, ?_⟩
    have kk : Post P B G F pv M σ ts (.tm (.lst .frz)) W Q (fa ρ >>= fun x => ofO ((dnL x.1).map fun z => (z, x.2))) := kk
    cases e1 : fa ρ with
    | bad => rw [e1] at kk; exact kk
    | exc c xs ρ' => rw [e1] at kk; exact kk
    | ok x =>
      obtain ⟨ds, ρ'⟩ := x
      rw [e1] at kk
      intro vs H' F' s' hh hF
      have r := ha.frozen (by simp) e1 s' hh
      have hl := ha.len _ _ _ e1
      match ds, vs, r, hl with
      | [d1, d2, d3], _, .cons r1 (.cons r2 (.cons r3 .nil)), _ =>
        cases r1 with
        | int i =>
          cases r2 with
          | int j =>
            cases r3 with
            | int k =>
              have kk : Post P B G F pv M σ ts (.tm (.lst .frz)) W Q (ofO ((if k = -1 then if dnOk i j = true then some (.list (dnD i j)) else none else none).map fun z => (z, ρ'))) := kk
              by_cases h1 : k = -1
              · subst h1
                rw [if_pos rfl] at kk
                by_cases h2 : dnOk i j = true
                · rw [if_pos h2] at kk
                  have hb := h2
                  simp only [dnOk, cb_eq] at hb
                  refine ⟨i, j, rfl, hb, fun q hq => ?_⟩
                  have s2 := s'.dropL
                  exact kk (.ref q) _ F' (s2.to (s2.w.lst0 (dn_rfs i j) hq)) trivial hF
                · rw [if_neg h2] at kk; exact kk.elim
              · rw [if_neg h1] at kk; exact kk.elim
            | _ => exact kk.elim
          | _ => exact kk.elim
        | _ => exact kk.elim, fun _ z => nomatch z⟩
end
end Z

set_option maxRecDepth 100000
set_option maxHeartbeats 1000000
namespace Z
open PySem PySem.Spec PySem.AutoSeq1
theorem ext_tup (l : Addr) (items : Array Value) (n : Nat) (b : Addr) (items2 : Array Value) (n2 : Nat) (dd : Option Addr) (sl : Array (Option Value)) (hs0 : ¬(!items.isEmpty && Builtin.List.listTooLong (items.size + items2.size)) = true) (hs1 : items.size ≤ sizeLine) (hs2 : items.size + items2.size ≤ sizeLine + 1) :
    Meets (Builtin.«list.extend» ⟨[.ref l, .ref b], []⟩) (fun _ R s => s.heap.get? l = some { cls := .type "list", dict := none, data := .seq items n, slots := #[] } ∧ s.heap.get? b = some { cls := .type "tuple", dict := dd, data := .seq items2 n2, slots := sl } ∧ R (.ok (.ret Value.none)) { s with heap := s.heap.update l (Obj.mapSeq fun x => x ++ items2), toks := s.toks }) :=
  .of_wp fun prog w A R s h => by
    obtain ⟨hp, g, d, tk, os⟩ := s
    obtain ⟨hl, hb, h⟩ := h
    have f1 := idx_int
    have f2 := sub_tuple_tuple
    have f3 := sub_list_list
    have f4 := sub_tuple_list
    have f5 := sub_list_tuple
    have hz' : (items ++ items2).size ≤ sizeLine + 1 := by
      rw [Array.size_append]
      exact hs2
    wp_walk using (wpAny_updateSeq hl rfl (hz := hs1) (_hz' := hz')), wpAny_loadPart' hl, wpAny_loadPart' hb
    exact ⟨_, rfl, h⟩
end Z
namespace Z
open PySem PySem.Spec PyProof.Rows L2
/-- found.extend(a tuple or a list) -/
theorem mt_extendT {X : Cx} : MtM X "list.extend" (fun x vs H Q => ∃ l b xs zs, x = .ref l ∧ vs = [.ref b] ∧ H l = some (.lst xs) ∧ SqT X.K H b zs ∧ xs.length + zs.length ≤ sizeLine ∧ Q .non (upd H l (.lst (xs ++ zs)))) := by
  intro pins s σ H x vs v us Q I rx rv h
  obtain ⟨l, b, xs, zs, rfl, rfl, hH, hB, hz, q⟩ := h
  cases rx
  obtain ⟨u, rfl, ru⟩ := rv.one
  cases ru
  obtain ⟨z, its, n, r, hl, e⟩ := I.lstM hH
  obtain ⟨its2, r2, hT, z2⟩ := I.tuple hB
  obtain ⟨o, e2, hc, n2, hd⟩ := hT
  obtain ⟨oc, od, odt, osl⟩ := o
  simp only at hc hd
  subst hc hd
  have hlr := r.length
  have hlr2 := r2.length
  have hsz : its.toArray.size + its2.toArray.size ≤ sizeLine := by
    rw [List.size_toArray, List.size_toArray]
    omega
  have hlong : ¬ (!its.toArray.isEmpty && Builtin.List.listTooLong (its.toArray.size + its2.toArray.size)) = true := by
    rw [notLongL hsz, Bool.and_false]
    simp
  refine call_meets F.slot_list_extend ⟨_, e, rfl⟩ F.entry_list_extend (F.args_list_extend_2 _ _) (ext_tup l its.toArray n b its2.toArray n2 od osl hlong (by rw [List.size_toArray]; omega) (by omega)) ⟨e, e2, ?_⟩
  refine ⟨.non, _, I.lset (its' := its ++ its2) hH e (by simp) (r.append r2) ?_, rfl, q⟩
  rw [List.length_append]
  omega
def extendX : List D → List D → Option (D × List D) := fun l ds => match ds with
  | [.list ys] => if l.length + ys.length ≤ sizeLine then some (.none, l ++ ys) else none
  | [.tuple ys] => if l.length + ys.length ≤ sizeLine then some (.none, l ++ ys) else none
  | _ => none
section
variable {X : Cx} {P : Par2}
theorem lm_extendX (hK : X.K = P.K) : LM X P.toPar "list.extend" .frz .frz extendX := by
  intro pins s σ H x vs v us Q I rx rv ⟨B, G, F, es, a, l, l', z, ds, ex, w, r, hg, k⟩
  subst ex
  obtain ⟨xs, e, S, rs⟩ := w.lstAt
  cases r with
  | nil => simp [extendX] at hg
  | cons r1 rr =>
    cases rr with
    | cons => cases r1 <;> simp [extendX] at hg
    | nil =>
      cases r1 with
      | @lst b zs ys _ eb ry =>
        simp only [extendX] at hg
        split at hg
        · rename_i hz
          cases hg
          exact mt_extend pins s σ H _ _ v us Q I rx rv ⟨a, b, xs, zs, rfl, rfl, e, eb, by rw [rs.length, ry.length]; exact hz, k _ _ ((w.relist0 e fun q => q.append ry).push .non)⟩
        · cases hg
      | @tup b zs ys sq ry =>
        simp only [extendX] at hg
        split at hg
        · rename_i hz
          cases hg
          exact mt_extendT pins s σ H _ _ v us Q I rx rv ⟨a, b, xs, zs, rfl, rfl, e, hK ▸ sq, by rw [rs.length, ry.length]; exact hz, k _ _ ((w.relist0 e fun q => q.append ry).push .non)⟩
        · cases hg
      | _ => simp [extendX] at hg
end
end Z

set_option maxRecDepth 100000
set_option maxHeartbeats 1000000
namespace Z
open PySem PySem.Spec PyProof.Rows L2

/-! ### for a, b in zip(x, y) -/
def zipD (xs ys : List D) : List D := List.zipWith (fun a b => PyData.tuple [a, b]) xs ys
def zipO : D → D → Option (List D)
  | .list xs, .list ys => some (zipD xs ys)
  | .tuple xs, .tuple ys => some (zipD xs ys)
  | _, _ => none
def zipI (fa : FnA) : FnI := fun ρ => fa ρ >>= fun x => ofO ((match x.1 with | [d, e] => zipO d e | _ => none).map fun ds => (ds, x.2))
section
variable {X : Cx} {P : Par2} {pv : List (Nat × V)} {M : List Md} {W : WX} {k : Nat}
theorem is_zip {e e2 : Expr} {fa : FnA} {p pos tpos : Pos} {elts : List Expr} {kk : Nat} (C : CtxOk X P k) (hg : Gl X "zip") (hm : X.mg "zip" = none) (ha : TAs X P pv M W [e, e2] [.tm .frz, .tm .frz] fa)
    (hs : starEach [e, e2] X.env = (false, eval e X.env) :: starEach [e2] X.env := by rfl) (hpl : (backTo pos (starEach [e2] X.env)).any (·.1) = false := by rfl) :
    PI X (.Tuple elts kk tpos) (.Call (.Name "zip" p) [e, e2] [] pos) (tI P pv M W (zipI fa)) :=
  (RZ.pi_zipA hg hm ha.pa hs hpl).imp fun σ H Rq ⟨B, G, F, ρ, ts, s, kq⟩ => by
    refine ⟨B, G, F, ρ, ts, s, ?_⟩
    unfold zipI at kq
    cases e1 : fa ρ with
    | bad => rw [e1] at kq; exact kq
    | exc c xs ρ' => rw [e1] at kq; exact kq
    | ok x =>
      obtain ⟨ds, ρ'⟩ := x
      rw [e1] at kq
      intro vs H' F' s' hh hF
      have r := ha.frozen (by simp) e1 s' hh
      have hl := ha.len _ _ _ e1
      match ds, vs, hl, r, s', kq with
      | [d, d2], [v, v2], _, .cons r (.cons r2 .nil), s', kq =>
        have s' : Stt P B G F' pv M ρ' σ ((.frz, d, some v) :: (.frz, d2, some v2) :: ts) H' := s'
        cases r with
        | @tup a vs ds sq r =>
          cases r2 with
          | @tup b ws es sq2 r2 =>
            refine ⟨a, b, vs, ws, rfl, .inr ⟨by rw [C.hK]; exact sq, by rw [C.hK]; exact sq2, kq _ [(.frz, .tuple ds, some (.ref a)), (.frz, .tuple es, some (.ref b))] H' F' s' hF (walk_pair (ds := zipD ds es) rfl fun B G F es' H w hu i => ?_)⟩⟩
            have ra := w.rf_frz (hu _ List.mem_cons_self)
            have rb := w.rf_frz (hu _ (List.mem_cons_of_mem _ List.mem_cons_self))
            cases ra with
            | @tup _ va _ ea ra =>
              cases rb with
              | @tup _ vb _ eb rb =>
                have ea' : SqT X.K H a va := by rw [C.hK]; exact ea
                have eb' : SqT X.K H b vb := by rw [C.hK]; exact eb
                refine ⟨fun d hd => ?_, fun hi => ⟨va, vb, ea', eb', by
                  have l1 := ra.length
                  have l2 := rb.length
                  simp [zipD] at hi
                  omega⟩⟩
                unfold zipD at hd
                obtain ⟨x, y, hx, hy, rfl⟩ := List.getElem?_zipWith_eq_some.mp hd
                obtain ⟨vx, ex, rx⟩ := ra.get hx
                obtain ⟨vy, ey, ry⟩ := rb.get hy
                refine ⟨⟨va, vb, vx, vy, ea', eb', ex, ey⟩, fun v2 H' yy => ?_⟩
                obtain ⟨T, x', y', rfl, hT, rfl, h1, h2⟩ := yy
                have q1 := h1 va ea'
                have q2 := h2 vb eb'
                rw [ex] at q1
                rw [ey] at q2
                cases q1
                cases q2
                exact ⟨T, _, rfl, hT, rfl, _, hd, .cons rx (.cons ry .nil)⟩
          | _ => exact kq.elim
        | @lst a vs ds f ea r =>
          cases r2 with
          | @lst b ws es f2 eb r2 =>
            refine ⟨a, b, vs, ws, rfl, .inl ⟨SqL.of ea, SqL.of eb, kq _ [(.frz, .list ds, some (.ref a)), (.frz, .list es, some (.ref b))] H' F' s' hF (walk_pair (ds := zipD ds es) rfl fun B G F es' H w hu i => ?_)⟩⟩
            have ra := w.rf_frz (hu _ List.mem_cons_self)
            have rb := w.rf_frz (hu _ (List.mem_cons_of_mem _ List.mem_cons_self))
            cases ra with
            | @lst _ va _ _ ea ra =>
              cases rb with
              | @lst _ vb _ _ eb rb =>
                have ea' : SqL X.K H a va := SqL.of ea
                have eb' : SqL X.K H b vb := SqL.of eb
                refine ⟨fun d hd => ?_, fun hi => ⟨va, vb, ea', eb', by
                  have l1 := ra.length
                  have l2 := rb.length
                  simp [zipD] at hi
                  omega⟩⟩
                unfold zipD at hd
                obtain ⟨x, y, hx, hy, rfl⟩ := List.getElem?_zipWith_eq_some.mp hd
                obtain ⟨vx, ex, rx⟩ := ra.get hx
                obtain ⟨vy, ey, ry⟩ := rb.get hy
                refine ⟨⟨va, vb, vx, vy, ea', eb', ex, ey⟩, fun v2 H' yy => ?_⟩
                obtain ⟨T, x', y', rfl, hT, rfl, h1, h2⟩ := yy
                have q1 := h1 va ea'
                have q2 := h2 vb eb'
                rw [ex] at q1
                rw [ey] at q2
                cases q1
                cases q2
                exact ⟨T, _, rfl, hT, rfl, _, hd, .cons rx (.cons ry .nil)⟩
          | _ => exact kq.elim
        | _ => exact kq.elim
end
end Z

set_option maxRecDepth 100000
set_option maxHeartbeats 1000000
namespace Z
open PySem PySem.Spec PyProof PyProof.Rows RT

/-! ### list(reversed(x)), x a list -/
section
variable {prog : Program} {w : PySem.World} {A : Around} {E : Value → Shared → Prop} {s : Shared}
abbrev RevAt (its : Array Value) (i : Nat) (v : Value) : Prop := its[its.size - 1 - i]? = some v
theorem init_rev {R : Result → Shared → Prop} (hh : A.handled = none) {it l S : Addr} {its : Array Value} (hit : s.heap.IsRevIter it l ((its.size : Int) - 1)) (hl : s.heap.IsList l its) (hne : l ≠ it) (hz : its.size ≤ sizeLine)
    (hS : s.heap.get? S = some { cls := .type "list", data := .seq #[] }) (hSi : S ≠ it) (hSl : S ≠ l)
    (hR : ∀ h' tk acc c, (∀ b o, b ≠ S → b ≠ it → s.heap.get? b = some o → h'.get? b = some o) → h'.get? S = some { cls := .type "list", dict := none, data := .seq acc c, slots := #[] } → ItemsOf (RevAt its) acc its.size → R (.ok (.ret .none)) { s with heap := h', toks := tk }) :
    wpAny (model prog w) A.in1 (Builtin.«list.__init__» ⟨[.ref S, .ref it], []⟩)
      (fun fin t => match fin with
        | .done f => R (.ok f) t
        | .again c => c.quiet = true ∧ codeAny (model prog w) A c R t) (fun e t => R (.error e) t) s := by
  have W := (Walks.listRev (prog := prog) (w := w) (A := A.in1) hh it l hne its).toS
  have hSf : S ∉ [it, l] := by
    simp only [List.mem_cons, List.not_mem_nil, or_false, not_or]
    exact ⟨hSi, hSl⟩
  show wpAny _ _ (do
    let old ← Builtin.List.listItems (.ref S)
    Builtin.List.listUpdate (.ref S) (fun _ => #[])
    letGo old.toList.reverse
    Builtin.List.listExtendWith (.ref S) (.ref it) .none) _ _ s
  refine wpAny_bind ?_
  unfold Builtin.List.listItems
  refine wpAny_bind (wpAny_seqItems hS rfl (wpAny_pure ?_))
  show wpAny _ _ (updateSeq S (fun _ => #[]) >>= fun _ =>
    letGo (#[] : Array Value).toList.reverse >>= fun _ =>
      Builtin.List.listExtendWith (.ref S) (.ref it) .none) _ _ s
  refine wpAny_bind (wpAny_updateSeq hS rfl ?_)
  have hS2 := Heap.get?_update_self (Obj.mapSeq fun _ => (#[] : Array Value)) hS rfl
  have oth : ∀ b o, b ≠ S → s.heap.get? b = some o → (s.heap.update S (Obj.mapSeq fun _ => (#[] : Array Value))).get? b = some o := fun b o hb e => by
    rw [Heap.get?_update_other _ _ (Ne.symm hb)]
    exact e
  refine wpAny_bind (wpAny_letGo ?_)
  have hit2 : (s.heap.update S (Obj.mapSeq fun _ => (#[] : Array Value))).IsRevIter it l ((its.size : Int) - 1) := hit.at fun o e => oth it o (Ne.symm hSi) e
  have hl2 : (s.heap.update S (Obj.mapSeq fun _ => (#[] : Array Value))).IsList l its := by
    obtain ⟨o, e, r⟩ := hl
    exact ⟨o, oth l o (Ne.symm hSl) e, r⟩
  generalize s.heap.update S (Obj.mapSeq fun _ => (#[] : Array Value)) = h2 at *
  have hT : ({ s with heap := h2 } : Shared).TypeIs (.ref it) "list_reverseiterator" := Heap.IsRevIter.typeIs (s := { s with heap := h2 }) hit2
  have hsr : Builtin.List.listSameRef (.ref S) (.ref it) = false := by simp [Builtin.List.listSameRef, hSi]
  unfold Builtin.List.listExtendWith
  refine wpAny_bind (wpAny_typeOf hT ?_)
  rw [if_neg (by rw [hsr]; decide)]
  refine wpAny_bind (wpAny_pyIter_revIter (s := { s with heap := h2 }) hit2 ?_)
  refine wpAny_bind (wpAny_holding ?_)
  unfold Builtin.List.listLengthHint
  refine wpAny_bind (wpAny_specialOf hT nolen_lri ?_)
  show wpAny _ A.in1 (specialOf (.ref it) (Str.ofString "__length_hint__") >>= _) _ _ _
  refine wpAny_bind (wpAny_specialOf hT hint_lri ?_)
  generalize hid : ("list_reverseiterator.__length_hint__" : String) = nm
  wp_delta
  rw [show splitId nm = some ("list_reverseiterator", "__length_hint__") from by
    subst hid
    decide +kernel]
  subst hid
  refine wpAny_bind (wpAny_isInstance (b := true) hT (by
    rw [isSubtype_type]
    kernel_rfl) ?_)
  refine wpAny_pure ?_
  rw [if_neg (by decide)]
  have e0 : ((its.size : Nat) : Int) - 1 - ((0 : Nat) : Int) = (its.size : Int) - 1 := by omega
  refine wpAny_pure ⟨plainId_quiet F.plain_extend_loop _, ?_⟩
  refine codeAny_extend_loopS W hz _ hSf _ its.size 0 _ _ _ rfl (Nat.zero_le _) ⟨Nat.zero_le _, by rw [e0]; exact hit2, hl2⟩ hS2 (ItemsOf.nil _) fun t acc c hm ht hacc => ?_
  rw [Moved.eq_with hm]
  refine hR t.heap t.toks acc c (fun b o hb hb2 e => hm.heap b o (fun hmem => ?_) (oth b o hb e)) ht hacc
  rcases List.mem_cons.mp hmem with z | z
  · exact hb z
  · exact hb2 (List.mem_singleton.mp z)
theorem call_list_rev {it l : Addr} {its : Array Value} {Q : Value → Shared → Prop} (hh : A.handled = none) (hit : s.heap.IsRevIter it l ((its.size : Int) - 1)) (hl : s.heap.IsList l its) (hne : l ≠ it) (hz : its.size ≤ sizeLine)
    (hQ : ∀ h' tk acc c, (∀ b o, b ≠ it → s.heap.get? b = some o → h'.get? b = some o) → h'.get? s.heap.objs.size = some { cls := .type "list", dict := none, data := .seq acc c, slots := #[] } → ItemsOf (RevAt its) acc its.size → Q (.ref s.heap.objs.size) { s with heap := h', toks := tk }) :
    wpAny (model prog w) A (call (.type "list") [.ref it]) Q E s := by
  obtain ⟨oi, hoi, _⟩ := id hit
  obtain ⟨ol, hol, _⟩ := id hl
  refine callType_codes (Q₁ := fun x t => x = .ref s.heap.objs.size ∧ t = { s with heap := s.heap.push { cls := .type "list", data := .seq #[] } }) F.called_list (F.typeCall_list_1 _) F.entry_list_init (code_list_new _ ⟨rfl, rfl⟩) fun x t ht => ?_
  obtain ⟨rfl, rfl⟩ := ht
  have hS : (s.heap.push { cls := .type "list", data := .seq #[] }).get? s.heap.objs.size = some { cls := .type "list", data := .seq #[] } := Heap.get?_push_size _ rfl
  refine ⟨⟨_, hS, rfl⟩, F.args_list_init_2 _ _, ?_⟩
  refine init_rev (A := A.in1) (s := { s with heap := s.heap.push { cls := .type "list", data := .seq #[] } }) hh (hit.at fun o e => Heap.get?_push_of_some _ e) (hl.push _) hne hz hS (Nat.ne_of_gt (Heap.lt_size hoi)) (Nat.ne_of_gt (Heap.lt_size hol)) fun h' tk acc c hk hS' hi => ?_
  exact ⟨rfl, hQ h' tk acc c (fun b o hb e => hk b o (Nat.ne_of_lt (Heap.lt_size e)) hb (Heap.get?_push_of_some _ e)) hS' hi⟩
end
end Z
namespace Z
open PySem PySem.Spec PyProof.Rows L2 RT
theorem vals_back {xs : List V} {its : List Value} {acc : Array Value} (r : Vals xs its) (h : ItemsOf (RevAt its.toArray) acc its.toArray.size) : Vals xs.reverse acc.toList := by
  have hs : its.toArray.size = its.length := List.size_toArray
  have hl : acc.toList.length = its.length := by rw [Array.length_toList, h.1, hs]
  have e : acc.toList = its.reverse := by
    refine List.ext_getElem? fun j => ?_
    by_cases hj : j < its.length
    · have e1 : acc.toList[j]? = some (acc.toList[j]'(by omega)) := List.getElem?_eq_getElem (by omega)
      have e2 := h.2 j _ (by rw [← Array.getElem?_toList]; exact e1)
      have e2 : its.toArray[its.toArray.size - 1 - j]? = some (acc.toList[j]'(by omega)) := e2
      rw [e1, List.getElem?_reverse hj, ← e2, hs]
      simp
    · rw [List.getElem?_eq_none (by omega), List.getElem?_eq_none (by simp; omega)]
  rw [e]
  exact r.reverse
def tLstRev (K : PySem.W.Frag) (te : TE) : TE := fun σ H Q => te σ H fun v H1 => ∃ (a : Addr) (xs : List V), v = .ref a ∧ SqL K H1 a xs ∧ ∀ q, H1 q = none → Q (.ref q) (upd H1 q (.lst xs.reverse))
section
variable {X : Cx}
theorem pe_lstRev {e : Expr} {te : TE} {p p2 pos pos2 : Pos} (hc : X.calm = true) (hg : Gl X "list") (hm : X.mg "list" = none) (hg2 : Gl X "reversed") (hm2 : X.mg "reversed" = none) (he : PE X e te)
    (hs : starEach [e] X.env = (false, eval e X.env) :: starEach [] X.env := by rfl)
    (hs2 : starEach [.Call (.Name "reversed" p2) [e] [] pos2] X.env = (false, eval (.Call (.Name "reversed" p2) [e] [] pos2) X.env) :: starEach [] X.env := by rfl) :
    PE X (.Call (.Name "list" p) [.Call (.Name "reversed" p2) [e] [] pos2] [] pos) (tLstRev X.K te) := by
  refine ⟨fun pins s σ H Q I h => ?_⟩
  refine Call_ (ld_blt I hg hm boot_list (callWith_type1 (args_cons ?_ hs2) hs2 rfl))
  refine Call_ (ld_blt I hg2 hm2 boot_reversed (callWith_type1 (args_cons (thn (he.run pins s σ H _ I h) fun u s1 ⟨v, H1, I1, r1, q1⟩ => args_nil ?_) hs) hs rfl))
  obtain ⟨a, xs, ev, hq, q⟩ := q1
  subst ev
  obtain rfl : u = Value.ref a := r1
  obtain ⟨its, rv, p', hz⟩ := I1.list hq
  refine call_reversed_list p'.isList (args_nil ?_)
  have k0 : ∀ b o, s1.heap.get? b = some o → (s1.heap.push (revObj a ((its.toArray.size : Int) - 1))).get? b = some o := fun b o e => Heap.get?_push_of_some _ e
  have I2 : Inv X pins σ H1 { s1 with heap := s1.heap.push (revObj a ((its.toArray.size : Int) - 1)) } := I1.kept (t' := s1.toks) k0
  have fr : H1 s1.heap.objs.size = none := I1.hok.fresh (Nat.le_refl _)
  have fp := I1.fpOk (H' := H1) (b := s1.heap.objs.size) (Nat.le_refl _) fr
  have hl := p'.isList
  obtain ⟨ol, hol, _⟩ := id hl
  have hne : a ≠ s1.heap.objs.size := Nat.ne_of_lt (Heap.lt_size hol)
  have hn : its.toArray.size ≤ sizeLine := by
    rw [List.size_toArray, ← rv.length]
    exact hz
  refine call_list_rev (s := { s1 with heap := s1.heap.push (revObj a ((its.toArray.size : Int) - 1)) }) (I1.ok.hd hc) ⟨_, Heap.get?_push_size _ rfl, rfl, rfl⟩ (hl.push _) hne hn fun h' tk acc c hk hS hi => ?_
  have I3 := I2.turnedNew (t' := tk) (ch := [s1.heap.objs.size]) (h' := h') (T := (s1.heap.push (revObj a ((its.toArray.size : Int) - 1))).objs.size) (ob := .lst xs.reverse) (fun b o hb e => hk b o (fun z => hb (by simp [z])) e) (fun b hb => by
    rw [List.mem_singleton.mp hb]
    exact fp) (Nat.le_refl _) ⟨by rw [List.length_reverse]; exact hz, acc.toList, c, vals_back rv hi, by rw [Array.toArray_toList]; exact hS⟩
  exact ⟨.ref _, _, I3, rfl, q _ (I2.hok.fresh (Nat.le_refl _))⟩
end
section
variable {X : Cx} {P : Par2} {pv : List (Nat × V)} {M : List Md} {W : WX} {k : Nat}
/-- list(reversed(x)) -/
theorem TO.lstRev {e : Expr} {oa : Om} {fa : Fn'} {p p2 pos pos2 : Pos} (C : CtxOk X P k) (hg : Gl X "list") (hm : X.mg "list" = none) (hg2 : Gl X "reversed") (hm2 : X.mg "reversed" = none) (ha : TO X P pv M W e oa fa) (la : oa.flat M = true)
    (hs : starEach [e] X.env = (false, eval e X.env) :: starEach [] X.env := by rfl)
    (hs2 : starEach [.Call (.Name "reversed" p2) [e] [] pos2] X.env = (false, eval (.Call (.Name "reversed" p2) [e] [] pos2) X.env) :: starEach [] X.env := by rfl) :
    TO X P pv M W (.Call (.Name "list" p) [.Call (.Name "reversed" p2) [e] [] pos2] [] pos) (.tm (.lst .frz)) (un1 revLD fa) :=
  ⟨(pe_lstRev C.hc hg hm hg2 hm2 ha.pe hs hs2).imp fun σ H Q h => one_view ha la h fun B G F es d z v H' w r hg kq => by
    cases r <;> simp only [revLD, reduceCtorEq, Option.some.injEq] at hg
    subst hg
    rename_i a vs ds ea r
    exact ⟨a, vs, rfl, SqL.of ea, fun p hp => kq _ _ _ (w.lst0 r.reverse hp) fun _ z => z⟩, fun _ z => nomatch z⟩
end
end Z

set_option maxRecDepth 100000
set_option maxHeartbeats 1000000
namespace Z
open PySem PySem.Spec PyProof.Rows L2

/-! ### {2: 14, 3: 9, 5: 6, 7: 5}[p] -/
def d4D (k1 v1 k2 v2 k3 v3 k4 v4 : Int) : D → Option D
  | .int i => if i = k1 then some (.int v1) else if i = k2 then some (.int v2) else if i = k3 then some (.int v3) else if i = k4 then some (.int v4) else none
  | _ => none
section
variable {X : Cx} {P : Par2} {pv : List (Nat × V)} {M : List Md} {W : WX} {k : Nat}
theorem TO.dict4 {a1 a2 a3 a4 b1 b2 b3 b4 e : Expr} {k1 v1 k2 v2 k3 v3 k4 v4 : Int} {i : Nat} {pos pos1 : Pos} (C : CtxOk X P k) (h1 : PE X a1 (tC (.int k1))) (h2 : PE X a2 (tC (.int k2))) (h3 : PE X a3 (tC (.int k3))) (h4 : PE X a4 (tC (.int k4))) (g1 : PE X b1 (tC (.int v1))) (g2 : PE X b2 (tC (.int v2))) (g3 : PE X b3 (tC (.int v3))) (g4 : PE X b4 (tC (.int v4)))
    (he : PE X e (tVar i)) (hs : NoSl e) (hm : M[i]? = some .frz := by rfl) (h12 : k1 ≠ k2 := by decide) (h13 : k1 ≠ k3 := by decide) (h14 : k1 ≠ k4 := by decide) (h23 : k2 ≠ k3 := by decide) (h24 : k2 ≠ k4 := by decide) (h34 : k3 ≠ k4 := by decide) :
    TO X P pv M W (.Subscript (.Dict [some a1, some a2, some a3, some a4] [b1, b2, b3, b4] pos1) e pos) (.tm .frz) (un1 (d4D k1 v1 k2 v2 k3 v3 k4 v4) (rdVar i)) :=
  ⟨(pe_dget (room1 C) (pe_disp (pps_cons h1 g1 (pps_cons h2 g2 (pps_cons h3 g3 (pps_cons h4 g4 pps_nil)))) rfl rfl (by simp) (show 4 ≤ 15 by decide)) he hs).imp fun σ H Q ⟨B, G, F, ρ, ts, s, kk⟩ => by
    intro p hp
    refine ⟨upd_same, [(.inl k1, .int v1), (.inl k2, .int v2), (.inl k3, .int v3), (.inl k4, .int v4)], rfl, (show 4 ≤ 15 by decide), ?_⟩
    obtain ⟨v, ev, q⟩ := s.slot (i := i) hm (by decide)
    have r := s.w.rf_frz q
    refine ⟨v, ev, ?_⟩
    have em : mergeK [] ([(.inl k1, .int v1), (.inl k2, .int v2), (.inl k3, .int v3), (.inl k4, .int v4)] : List (Key × V)) = [(.inl k1, .int v1), (.inl k2, .int v2), (.inl k3, .int v3), (.inl k4, .int v4)] := by
      simp [mergeK, putK, h12, h13, h14, h23, h24, h34]
    rw [em]
    have kk : Post P B G F pv M σ ts (.tm .frz) W Q (ofO ((d4D k1 v1 k2 v2 k3 v3 k4 v4 (ρ.getD i .none)).map fun z => (z, ρ))) := kk
    revert kk
    generalize ρ.getD i .none = d at r
    intro kk
    cases r with
    | int j =>
      have fin : ∀ {v : Int}, valV ([(.inl k1, .int v1), (.inl k2, .int v2), (.inl k3, .int v3), (.inl k4, .int v4)] : List (Key × V)) (.inl j) = some (.int v) → d4D k1 v1 k2 v2 k3 v3 k4 v4 (.int j) = some (.int v) → ∃ (a : Addr) (x : V), V.ref p = .ref a ∧ DGet (upd (upd H p (.dK [])) p (.dK [(.inl k1, .int v1), (.inl k2, .int v2), (.inl k3, .int v3), (.inl k4, .int v4)])) a (.int j) (some x) ∧ Q x (upd (upd H p (.dK [])) p (.dK [(.inl k1, .int v1), (.inl k2, .int v2), (.inl k3, .int v3), (.inl k4, .int v4)])) := fun {v} e1 e2 => by
        rw [e2] at kk
        have up : upd (upd H p (.dK [])) p (.dK [(.inl k1, .int v1), (.inl k2, .int v2), (.inl k3, .int v3), (.inl k4, .int v4)]) = upd H p (.dK [(.inl k1, .int v1), (.inl k2, .int v2), (.inl k3, .int v3), (.inl k4, .int v4)]) := by
          funext c
          by_cases z : c = p
          · subst z
            rw [upd_same, upd_same]
          · rw [upd_ne z, upd_ne z, upd_ne z]
        rw [up]
        refine ⟨p, .int v, rfl, .inl ⟨_, .inl j, .inl upd_same, rfl, e1.symm⟩, ?_⟩
        have s2 : Stt P B G F pv M ρ σ ts (upd H p (.dK [(.inl k1, .int v1), (.inl k2, .int v2), (.inl k3, .int v3), (.inl k4, .int v4)])) := s.to (s.w.heap_alloc hp)
        exact kk (.int v) _ F (s2.push (.int v)) trivial fun _ z => z
      by_cases c1 : j = k1
      · subst c1
        exact fin (v := v1) (by simp [valV]) (by simp [d4D])
      · by_cases c2 : j = k2
        · subst c2
          exact fin (v := v2) (by simp [valV, c1, Ne.symm c1, h12]) (by simp [d4D, c1])
        · by_cases c3 : j = k3
          · subst c3
            exact fin (v := v3) (by simp [valV, Ne.symm c1, Ne.symm c2, h13, h23]) (by simp [d4D, c1, c2])
          · by_cases c4 : j = k4
            · subst c4
              exact fin (v := v4) (by simp [valV, Ne.symm c1, Ne.symm c2, Ne.symm c3, h14, h24, h34]) (by simp [d4D, c1, c2, c3])
            · have : d4D k1 v1 k2 v2 k3 v3 k4 v4 (.int j) = none := by simp [d4D, c1, c2, c3, c4]
              rw [this] at kk
              exact kk.elim
    | _ => exact kk.elim, fun _ z => nomatch z⟩
/-! ### "".join(x) -/
def strsOf : List D → Option (List Str)
  | [] => some []
  | .str x :: r => (strsOf r).map (x :: ·)
  | _ :: _ => none
theorem strsOf_some : ∀ {ds : List D} {ys : List Str}, strsOf ds = some ys → ds = ys.map PyData.str
  | [], _, h => by cases h; rfl
  | .str x :: r, ys, h => by
    simp only [strsOf, Option.map_eq_some_iff] at h
    obtain ⟨l, e, rfl⟩ := h
    rw [strsOf_some e]
    rfl
  | .none :: _, _, h => nomatch h
  | .bool _ :: _, _, h => nomatch h
  | .int _ :: _, _, h => nomatch h
  | .tuple _ :: _, _, h => nomatch h
  | .list _ :: _, _, h => nomatch h
  | .dict _ :: _, _, h => nomatch h
theorem RFs.strs {P : Par} {H : Hp} {F : Addr → Prop} : ∀ {ys : List Str} {vs : List V}, RFs P H F vs (ys.map PyData.str) → vs = ys.map V.str
  | [], _, h => by cases h; rfl
  | y :: ys, _, h => by
    cases h with
    | cons a r =>
      cases a
      rw [RFs.strs r]
      rfl
def joinD (a : Str) : D → Option D
  | .list ds => (match strsOf ds with
    | some ys => if (ys.map (·.length)).sum + ys.length * a.length ≤ 16777216 then some (.str (Txt.join a ys)) else none
    | none => none)
  | _ => none
theorem TO.join {o e : Expr} {oa : Om} {fa : Fn'} {a : Str} {apos pos : Pos} (C : CtxOk X P k) (ho : PE X o (tC (.str a))) (ha : TO X P pv M W e oa fa) (la : oa.flat M = true) (hs : starEach [e] X.env = [(false, eval e X.env)] := by rfl) (hbase : attributeBase o "join" X.env (eval o X.env) = eval o X.env := by rfl) (hline : (apos.endLine == pos.line) = true := by rfl) :
    TO X P pv M W (.Call (.Attribute o "join" apos) [e] [] pos) (.tm .frz) (un1 (joinD a) fa) :=
  ⟨(pe_join ho ha.pe hs hbase hline).imp fun σ H Q h => ⟨⟨a, rfl⟩, one_view ha la h fun B G F es d z v H' w r hg kq => by
    cases r <;> simp only [joinD, reduceCtorEq] at hg
    rename_i ad vs ds ea r
    split at hg
    · rename_i ys ey
      split at hg
      · rename_i hz
        cases hg
        have e1 := strsOf_some ey
        subst e1
        have e2 := r.strs
        subst e2
        exact ⟨a, ad, ys, rfl, rfl, .inl (SqL.of ea), hz, kq _ _ F (w.push (.str _)) fun _ z => z⟩
      · cases hg
    · cases hg⟩, fun _ z => nomatch z⟩
end
end Z

set_option maxRecDepth 100000
set_option maxHeartbeats 1000000
namespace Z
open PySem PySem.Spec PyProof.Rows L2

/-! ### rows[c][l - n] = e, rows a list of own lists -/
section
variable {P : Par} {B H : Hp} {G F : Addr → Prop} {es : List Ent}
theorem RMs.at {m : Md} : ∀ {vs : List V} {ds : List D} {S : List Addr} {i : Nat} {d : D}, RMs P H F m vs ds S → ds[i]? = some d → ∃ v S1, vs[i]? = some v ∧ RM P H F m v d S1 ∧ (∀ b ∈ S1, b ∈ S) ∧
    ∀ H' d', S.Nodup → Stay F H H' → (∀ b, b ∉ S1 → H' b = H b) → RM P H' F m v d' S1 → RMs P H' F m vs (ds.set i d') S
  | _, _, _, _, _, .nil, h => by simp at h
  | _, _, _, 0, d, .cons (S := S1) (S' := S2) a r, h => by
    cases h
    refine ⟨_, S1, rfl, a, fun b hb => List.mem_append_left _ hb, fun H' d' nd st same r' => ?_⟩
    exact .cons r' (RMs.stay st (fun _ z => z) r fun b hb => same b fun z => (List.nodup_append.mp nd).2.2 b z b hb rfl)
  | _, _, _, i + 1, d, .cons (S := S1) (S' := S2) a r, h => by
    obtain ⟨v, S3, e, r3, sub, k⟩ := RMs.at (i := i) r (by simpa using h)
    refine ⟨v, S3, by simpa using e, r3, fun b hb => List.mem_append_right _ (sub b hb), fun H' d' nd st same r' => ?_⟩
    have nd2 := List.nodup_append.mp nd
    exact .cons (RM.stay st (fun _ z => z) a fun b hb => same b fun z => nd2.2.2 b hb b (sub b z) rfl) (k H' d' nd2.2.1 st same r')
theorem World.renest {a : Addr} {l : List D} {q : List D} {i : Nat} (w : World P B G F ((.lst (.lst .frz), .list l, some (.ref a)) :: es) H) (hq : l[i]? = some (.list q)) :
    ∃ vs b ws, H a = some (.lst vs) ∧ vs[i]? = some (.ref b) ∧ vs.length = l.length ∧ H b = some (.lst ws) ∧ ws.length = q.length ∧ ∀ ws' q', (RFs P H F ws q → RFs P H F ws' q') → World P B G F ((.lst (.lst .frz), .list (l.set i (.list q')), some (.ref a)) :: es) (upd H b (.lst ws')) := by
  obtain ⟨S, h, nd, k⟩ := w.ents
  cases h with
  | cons x r =>
    rename_i Sa Sr
    cases x with
    | held x =>
      cases x with
      | @lst _ _ vs _ S1 ea rs =>
        obtain ⟨v, S3, ev, r3, sub, kk⟩ := RMs.at rs hq
        cases r3 with
        | @lst _ b ws _ S4 eb rw4 =>
          obtain ⟨rf, rfl⟩ := rw4.of_frz
          refine ⟨vs, b, ws, ea, ev, rs.length, eb, rf.length, fun ws' q' hr => ?_⟩
          have hbS : b ∈ S1 := sub b (by simp)
          have nd1 := List.nodup_append.mp nd
          have nda := List.nodup_cons.mp nd1.1
          have kb := k b (List.mem_append_left _ (List.mem_cons_of_mem _ hbS))
          have hab : a ≠ b := fun z => nda.1 (z ▸ hbS)
          have st : Stay F H (upd H b (.lst ws')) := Stay.write eb trivial kb.1
          have same : ∀ c, c ∉ [b] → upd H b (.lst ws') c = H c := fun c hc => upd_ne (fun z => hc (by simp [z]))
          have rf' : RFs P (upd H b (.lst ws')) F ws' q' := RFs.stay st (fun _ z => z) (hr rf)
          have r3' : RM P (upd H b (.lst ws')) F (.lst .frz) (.ref b) (.list q') [b] := .lst upd_same (RMs.frz rf')
          have rs' := kk _ _ nda.2 st same r3'
          refine ⟨⟨(a :: S1) ++ Sr, .cons (.held (.lst (by rw [upd_ne hab]; exact ea) rs')) (r.stay st (fun _ z => z) fun c hc => upd_ne fun z => nd1.2.2 b (List.mem_cons_of_mem _ hbS) c hc z.symm), nd, k⟩, w.fG, fun c z => ?_, w.gB, fun c o e => ?_⟩
          · obtain ⟨o, e⟩ := w.fH c z
            exact ⟨o, st c o e (.inl z)⟩
          · rw [upd_ne fun z => by rw [← z, e] at kb; cases kb.2.2]
            exact w.base c o e
end
def setIt2K (i : Nat) (c n : Int) (d : D) (ρ : Env') : D → D → R Fl
  | .list l, .int j => (match ixN l.length c with
    | some m => (match l[m]? with
      | some (.list q) => (match ixN q.length (j - n) with
        | some r => .ok (.nx (ρ.set i (.list (l.set m (.list (q.set r d))))))
        | none => .bad)
      | _ => .bad)
    | none => .bad)
  | _, _ => .bad
def setIt2F (i : Nat) (c : Int) (l : Nat) (n : Int) (fe : Fn') : FnS := fun ρ => fe ρ >>= fun x => setIt2K i c n x.1 x.2 (x.2.getD i .none) (x.2.getD l .none)
section
variable {X : Cx} {P : Par2} {pv : List (Nat × V)} {M Mt Mn : List Md} {W : WX} {J : Sg} {k : Nat}
theorem st_setIt2 {o ec lv en e : Expr} {i l : Nat} {c n : Int} {fe : Fn'} {p1 p2 p3 pos : Pos} (he : TO X P J.pv M J.W e (.tm .frz) fe) (ho : PE X o (tVar i)) (hc : PE X ec (tC (.int c))) (hs1 : PlainIx ec) (hl : PE X lv (tVar l)) (hn : PE X en (tC (.int n)))
    (hm : M[i]? = some (.lst (.lst .frz)) := by rfl) (hm2 : M[l]? = some .frz := by rfl) (hx : leM M J.Mx = true := by rfl)
    (ha : ∀ v, assign (.Subscript (.Subscript o ec p1) (.BinOp lv .Sub en p3) p2) X.env v = (do
      let ov ← holding [v] (eval (.Subscript o ec p1) X.env)
      let iv ← holding [v, ov] (eval (.BinOp lv .Sub en p3) X.env)
      standAt p2
      holding [v, ov, iv] (setItem ov iv v)
      release [v, ov, iv] []) := by intro _; rfl)
    (hs : swapsWithSole [.Subscript (.Subscript o ec p1) (.BinOp lv .Sub en p3) p2] e pos.line X.env = pure false := by rfl) (hw : swappedStores [.Subscript (.Subscript o ec p1) (.BinOp lv .Sub en p3) p2] e X.env = pure none := by rfl) (h1 : (assignEach [.Subscript (.Subscript o ec p1) (.BinOp lv .Sub en p3) p2] X.env).map (·.2) = [assign (.Subscript (.Subscript o ec p1) (.BinOp lv .Sub en p3) p2) X.env] := by rfl) :
    PS X (.Assign [.Subscript (.Subscript o ec p1) (.BinOp lv .Sub en p3) p2] e pos) (tS P J M M (setIt2F i c l n fe)) :=
  (ps_asg he.pe (pg_sub (pe_ix ix_list ho hc hs1) (pe_op op_sub hl hn) set_list ha) hs hw h1).imp fun E σ H ⟨B, G, F, ρ, ts, s, kk⟩ => by
    have kk : PostS P J B G F ts M E (fe ρ >>= fun x => setIt2K i c n x.1 x.2 (x.2.getD i .none) (x.2.getD l .none)) := kk
    refine ⟨B, G, F, ρ, ts, s, ?_⟩
    cases e1 : fe ρ with
    | bad => rw [e1] at kk; exact kk.elim
    | exc c xs ρ' =>
      rw [e1] at kk
      exact fun cls dx H' F' s' hx' hF' => kk cls dx σ H' F' (s'.le hx) hx' hF'
    | ok x =>
      obtain ⟨d, ρ1⟩ := x
      rw [e1] at kk
      intro v1 H1 F1 s1 _ hF1
      obtain ⟨va, ea, q⟩ := s1.slot hm (by simp)
      obtain ⟨vl, el, ql⟩ := s1.slot hm2 (by decide)
      have rl := s1.w.rf_frz ql
      have w := take_slot s1.w hm s1.lr s1.ls
      rw [getD_of ea] at w
      have kk : PostS P J B G F ts M E (setIt2K i c n d ρ1 (ρ1.getD i .none) (ρ1.getD l .none)) := kk
      revert kk w rl
      generalize ρ1.getD i .none = dl
      generalize ρ1.getD l .none = dj
      intro rl w kk
      obtain ⟨v', e3, S, rm, _⟩ := w.mem (m := .lst (.lst .frz)) (d := dl) (v := some va) List.mem_cons_self (by simp)
      cases e3
      cases rm with
      | @lst _ a vs l' _ eh rs =>
        cases dj with
        | int j =>
          cases rl
          unfold setIt2K at kk
          simp only at kk
          cases c1 : ixN l'.length c with
          | none => rw [c1] at kk; exact kk.elim
          | some m =>
            rw [c1] at kk
            simp only at kk
            cases c2 : l'[m]? with
            | none => rw [c2] at kk; exact kk.elim
            | some dd =>
              rw [c2] at kk
              cases dd with
              | list q =>
                simp only at kk
                cases c3 : ixN q.length (j - n) with
                | none => rw [c3] at kk; exact kk.elim
                | some r =>
                  rw [c3] at kk
                  simp only at kk
                  obtain ⟨vs2, b, ws, g1, g2, g3, g4, g5, g6⟩ := w.renest c2
                  rw [eh] at g1
                  cases g1
                  have at1 : atI vs c = some (.ref b) := by
                    unfold atI
                    rw [g3, c1]
                    exact g2
                  have r1 := s1.w.rf_frz (d := d) (v := v1) List.mem_cons_self
                  refine ⟨_, ea, a, vs, c, .ref b, rfl, rfl, SqL.of eh, at1, _, el, j, n, rfl, rfl, b, ws, j - n, r, rfl, rfl, g4, by rw [g5]; exact c3, ?_⟩
                  have w2 := g6 (ws.set r v1) (q.set r d) fun z => z.set r1 r
                  have w4 := put_slot (d := .list (l'.set m (.list (q.set r d)))) (by rw [getD_of ea]; exact w2) hm s1.lr s1.ls
                  have s4 : Stt P B G F1 J.pv M (ρ1.set i (.list (l'.set m (.list (q.set r d))))) σ ((.frz, d, some v1) :: ts) _ := ⟨w4, by simpa using s1.lr, s1.ls, s1.pv⟩
                  exact kk σ _ F1 s4.drop1 hF1
              | _ => exact kk.elim
        | _ => exact kk.elim
end
end Z

set_option maxRecDepth 100000
set_option maxHeartbeats 3200000
namespace Z
open PySem PySem.Spec PyProof PyProof.Rows

/-! ### sorted(set(x)), x a list of ints -/
def setOb (w : PySem.World) : Obj := { cls := .type "set", dict := none, data := .set #[] 0 (.fresh 0 0 (!w.params.followText "set-order")) }
section
variable {prog : Program} {w : PySem.World} {A : Around} {E : Value → Shared → Prop} {s : Shared}
theorem init_setL {R : Result → Shared → Prop} (hh : A.handled = none) {l S : Addr} {items : Array Value} {ns : List Int} (hl : s.heap.IsList l items) (hi : IntsAre items.toList ns) (hb : ns.length + 1 < scanBound) (hS : s.heap.get? S = some (setOb w)) (hSl : S ≠ l)
    (hR : ∀ h' tk c, L2.SetR w h' S (fun j => decide (j ∈ ns)) c → c ≤ ns.length → (∀ b o, b ≠ S → s.heap.get? b = some o → h'.get? b = some o) → R (.ok (.ret .none)) { s with heap := h', toks := tk }) :
    wpAny (model prog w) A.in1 (Builtin.«set.__init__» ⟨[.ref S, .ref l], []⟩)
      (fun fin t => match fin with
        | .done f => R (.ok f) t
        | .again c => c.quiet = true ∧ codeAny (model prog w) A c R t) (fun e t => R (.error e) t) s := by
  have hn : items.size = ns.length := by
    have q := IntsAre.length hi
    rwa [Array.length_toList] at q
  obtain ⟨ol, hol, hcl, nl, hdl⟩ := id hl
  obtain ⟨ocls, odict, odata, oslots⟩ := ol
  simp only at hcl hdl
  subst hcl hdl
  have q1 := F.sub_list_set
  have q2 := F.sub_list_frozenset
  have q3 : (Value.type "list" == Value.type "dict") = false := by decide
  obtain ⟨hp, g, dn, tk, os⟩ := s
  simp only at hol hl hS hR
  have hlI : l ≠ hp.objs.size := Nat.ne_of_lt (Heap.lt_size hol)
  have hSI : S ≠ hp.objs.size := Nat.ne_of_lt (Heap.lt_size hS)
  unfold Builtin.«set.__init__» noKeywords Builtin.Frozenset.updateFrom
  generalize hPI : pyIter = PI
  dsimp only
  wp_walk
  subst hPI
  refine wpAny_pyIter_list hl ?_
  refine wpAny_bind (wpAny_runValue ?_)
  have h3 : A.in1.in1.handled = none := by simp [hh]
  have hSf : S ∉ [hp.objs.size, l] := by
    simp only [List.mem_cons, List.not_mem_nil, or_false, not_or]
    exact ⟨hSI, hSl⟩
  have hval : ∀ (i : Nat) (v : Value), items[i]? = some v → ∃ k t, ns[i]? = some k ∧ v = .int k t := fun i v hv => by
    have hlt : i < ns.length := by rw [← hn]; exact (Array.getElem?_eq_some_iff.mp hv).1
    obtain ⟨t, e⟩ := IntsAre.int_at hi i v (by rw [Array.getElem?_toList]; exact hv)
    rw [List.getD_eq_getElem?_getD, List.getElem?_eq_getElem hlt] at e
    exact ⟨ns[i], t, List.getElem?_eq_getElem hlt, e⟩
  refine L2.set_update_ints ((Walks.list h3 _ l hlI items).toS) S hSf ns hn hb hval (items.size - 0) 0 _ (by omega) (Nat.zero_le _) ?h1 ?h0 fun t c hm hc hS' => ?_
  case h1 => exact ⟨⟨_, Heap.get?_push_size _ rfl, rfl, rfl⟩, hl.push _⟩
  case h0 => exact ⟨0, Nat.le_refl 0, L2.setR_new_at (w := w) (Heap.get?_push_of_some _ hS)⟩
  obtain ⟨h', g2, d2, tk2, os2⟩ := t
  obtain rfl : g2 = g := hm.gens
  obtain rfl : d2 = dn := hm.drawn
  obtain rfl : os2 = os := hm.os
  refine wpAny_pure (wpAny_pure ?_)
  exact hR h' tk2 c hS' (by omega) fun b o hb e => hm.heap b o (by
    simp only [List.mem_cons, List.not_mem_nil, or_false, not_or]
    exact ⟨hb, Nat.ne_of_lt (Heap.lt_size e)⟩) (Heap.get?_push_of_some _ e)
theorem call_setL {l : Addr} {items : Array Value} {ns : List Int} {Q : Value → Shared → Prop} (hh : A.handled = none) (hl : s.heap.IsList l items) (hi : IntsAre items.toList ns) (hb : ns.length + 1 < scanBound)
    (hQ : ∀ h' tk c, L2.SetR w h' s.heap.objs.size (fun j => decide (j ∈ ns)) c → c ≤ ns.length → (∀ b o, s.heap.get? b = some o → h'.get? b = some o) → Q (.ref s.heap.objs.size) { s with heap := h', toks := tk }) :
    wpAny (model prog w) A (call (.type "set") [.ref l]) Q E s := by
  obtain ⟨ol, hol, _⟩ := id hl
  have hS : (s.heap.push (setOb w)).get? s.heap.objs.size = some (setOb w) := Heap.get?_push_size _ rfl
  have hT : Shared.TypeIs { s with heap := s.heap.push (setOb w) } (.ref s.heap.objs.size) "set" := ⟨_, hS, rfl⟩
  obtain ⟨cc, tl, hmro⟩ := F.called_set.mro
  have f1 := F.called_set.made
  have f2 := F.called_set.sub
  have f3 := F.called_set.notType
  have f4 := F.called_set.canCreate
  have f5 := F.typeCall_set_1 (.ref l)
  have f6 := F.called_set.init.lookup
  have f7 := F.called_set.init.bind (.ref s.heap.objs.size)
  apply wpAny_call; apply codeAny_of_tree
  show wpAny _ _ (callAny (.type "set") _) _ _ _
  apply wpAny_pure; refine ⟨Code.quiet_builtin _ (by decide +kernel), ?_⟩; apply codeAny_builtin F.entry_type_call
  rw [Around.under_plain (weight_type_call_type "set" [.ref l] []) rfl]
  repeat (any_goals (first | assumption | wp_step))
  refine codeAny_mono (L2.code_set_led1 (.ref l) (E := E) (Q₁ := fun x t => x = .ref s.heap.objs.size ∧ t = { s with heap := s.heap.push (setOb w) }) ⟨rfl, rfl⟩) fun r t hr => ?_
  cases r with
  | error e => exact hr
  | ok fl =>
    cases fl with
    | ret x =>
      obtain ⟨rfl, rfl⟩ := hr
      repeat (any_goals (first | assumption | wp_step))
      refine codeAny_mono (codeAny_call_builtin (R := wants (fun r t => r = .none ∧ ∃ h' tk c, t = { s with heap := h', toks := tk } ∧ L2.SetR w h' s.heap.objs.size (fun j => decide (j ∈ ns)) c ∧ c ≤ ns.length ∧ ∀ b o, s.heap.get? b = some o → h'.get? b = some o) E)
        F.called_set.init.plain F.entry_set_init (check_set_init_1 hT (init_setL (s := { s with heap := s.heap.push (setOb w) }) (by simp [hh]) (hl.push _) hi hb hS (Nat.ne_of_gt (Heap.lt_size hol)) fun h' tk c hS' hc hk =>
          ⟨rfl, h', tk, c, rfl, hS', hc, fun b o e => hk b o (Nat.ne_of_lt (Heap.lt_size e)) (Heap.get?_push_of_some _ e)⟩))) fun r2 t2 hr2 => ?_
      cases r2 with
      | error e => exact hr2
      | ok fl2 =>
        cases fl2 with
        | ret r =>
          obtain ⟨rfl, h', tk, c, rfl, hS', hc, hk⟩ := hr2
          repeat (any_goals (first | assumption | wp_step))
          exact hQ _ _ _ hS' hc hk
        | _ => exact hr2.elim
    | _ => exact hr.elim
end
end Z
namespace Z
open PySem PySem.Spec PyProof.Rows L2
/-- insertion, each but once -/
def insU (a : Int) : List Int → List Int
  | [] => [a]
  | b :: l => if a < b then a :: b :: l else if a = b then b :: l else b :: insU a l
def ssI (l : List Int) : List Int := l.foldr insU []
theorem insU_mem (a : Int) : ∀ (l : List Int) (x : Int), x ∈ insU a l ↔ x = a ∨ x ∈ l
  | [], x => by simp [insU]
  | b :: l, x => by
    unfold insU
    by_cases c : a < b
    · simp [c]
    · by_cases e : a = b
      · subst e
        simp
      · rw [if_neg c, if_neg e, List.mem_cons, insU_mem a l x, List.mem_cons]
        constructor
        · rintro (h | h | h)
          · exact .inr (.inl h)
          · exact .inl h
          · exact .inr (.inr h)
        · rintro (h | h | h)
          · exact .inr (.inl h)
          · exact .inl h
          · exact .inr (.inr h)
theorem insU_asc (a : Int) : ∀ l : List Int, l.Pairwise (· < ·) → (insU a l).Pairwise (· < ·)
  | [], _ => by simp [insU]
  | b :: l, h => by
    obtain ⟨h1, h2⟩ := List.pairwise_cons.mp h
    unfold insU
    by_cases c : a < b
    · rw [if_pos c]
      refine List.pairwise_cons.mpr ⟨fun x hx => ?_, h⟩
      rcases List.mem_cons.mp hx with rfl | hx
      · exact c
      · exact Int.lt_trans c (h1 x hx)
    · by_cases e : a = b
      · rw [if_neg c, if_pos e]
        exact h
      · rw [if_neg c, if_neg e]
        refine List.pairwise_cons.mpr ⟨fun x hx => ?_, insU_asc a l h2⟩
        rcases (insU_mem a l x).mp hx with rfl | hx
        · omega
        · exact h1 x hx
theorem ssI_mem : ∀ (l : List Int) (x : Int), x ∈ ssI l ↔ x ∈ l
  | [], x => by simp [ssI]
  | a :: l, x => by
    show x ∈ insU a (ssI l) ↔ _
    rw [insU_mem, ssI_mem l x, List.mem_cons]
theorem ssI_asc : ∀ l : List Int, (ssI l).Pairwise (· < ·)
  | [] => .nil
  | a :: l => insU_asc a _ (ssI_asc l)
theorem asc_unique : ∀ {l m : List Int}, l.Pairwise (· < ·) → m.Pairwise (· < ·) → (∀ x, x ∈ l ↔ x ∈ m) → l = m
  | [], [], _, _, _ => rfl
  | [], b :: m, _, _, h => absurd ((h b).mpr List.mem_cons_self) (by simp)
  | a :: l, [], _, _, h => absurd ((h a).mp List.mem_cons_self) (by simp)
  | a :: l, b :: m, hl, hm, h => by
    obtain ⟨l1, l2⟩ := List.pairwise_cons.mp hl
    obtain ⟨m1, m2⟩ := List.pairwise_cons.mp hm
    have e : a = b := by
      rcases List.mem_cons.mp ((h a).mp List.mem_cons_self) with z | z
      · exact z
      · rcases List.mem_cons.mp ((h b).mpr List.mem_cons_self) with y | y
        · exact y.symm
        · have := l1 b y
          have := m1 a z
          omega
    subst e
    refine congrArg (a :: ·) (asc_unique l2 m2 fun x => ?_)
    have hx := h x
    simp only [List.mem_cons] at hx
    constructor
    · intro z
      rcases hx.mp (.inr z) with y | y
      · exact absurd (l1 x z) (by omega)
      · exact y
    · intro z
      rcases hx.mpr (.inr z) with y | y
      · exact absurd (m1 x z) (by omega)
      · exact y
def tSset (K : PySem.W.Frag) (te : TE) : TE := fun σ H Q => te σ H fun v H1 => ∃ (a : Addr) (ns : List Int), v = .ref a ∧ SqL K H1 a (ns.map V.int) ∧ ns.length < 60 ∧ ∀ q, H1 q = none → Q (.ref q) (upd H1 q (.lst ((ssI ns).map V.int)))
theorem ssI_len : ∀ l : List Int, (ssI l).length ≤ l.length
  | [] => Nat.le_refl _
  | a :: l => by
    have h := ssI_len l
    have k : ∀ m : List Int, (insU a m).length ≤ m.length + 1 := fun m => by
      induction m with
      | nil => simp [insU]
      | cons b m ih =>
        unfold insU
        split
        · simp
        · split <;> simp <;> omega
    have := k (ssI l)
    show (insU a (ssI l)).length ≤ l.length + 1
    omega
section
variable {X : Cx}
theorem pe_sset {e : Expr} {te : TE} {p p2 pos pos2 : Pos} (hc : X.calm = true) (hg : Gl X "sorted") (hm : X.mg "sorted" = none) (hg2 : Gl X "set") (hm2 : X.mg "set" = none) (he : PE X e te)
    (hs : starEach [e] X.env = (false, eval e X.env) :: starEach [] X.env := by rfl) :
    PE X (.Call (.Name "sorted" p) [.Call (.Name "set" p2) [e] [] pos2] [] pos) (tSset X.K te) := by
  refine ⟨fun pins s σ H Q I h => ?_⟩
  refine Call_ (ld_blt I hg hm boot_sorted (callWith_builtin1 (args_cons ?_ rfl) rfl rfl))
  refine Call_ (ld_blt I hg2 hm2 boot_set (callWith_type1 (args_cons (thn (he.run pins s σ H _ I h) fun u s1 ⟨v, H1, I1, r1, q1⟩ => args_nil ?_) hs) hs rfl))
  obtain ⟨a, ns, ev, hq, hn, q⟩ := q1
  subst ev
  obtain rfl : u = Value.ref a := r1
  obtain ⟨its, rv, p', hz⟩ := I1.list hq
  refine call_setL (ns := ns) (I1.ok.hd hc) p'.isList (by simpa using rv.ints) (by unfold scanBound; omega) fun h' tk c hS hcn hk => args_nil ?_
  have I2 : Inv X pins σ H1 { s1 with heap := h', toks := tk } := I1.kept (t' := tk) hk
  refine sorted_set (s := { s1 with heap := h', toks := tk }) hS (I1.ok.hd hc) (by omega) fun s' p out cc ms k g o hp hg' hi hs' hm' hl => ?_
  have hms : ms = ssI ns := asc_unique hs' (ssI_asc ns) fun x => by rw [hm', ssI_mem, decide_eq_true_iff]
  subst hms
  have hlen : ((ssI ns).map V.int).length ≤ sizeLine := by rw [List.length_map, hl, sizeLine_eq]; omega
  have fr : H1 p = none := I2.hok.fresh hp
  have J : Inv X pins σ (upd H1 p (.lst ((ssI ns).map V.int))) { { s1 with heap := h', toks := tk } with heap := s'.heap, gens := s'.gens, drawn := s'.drawn, toks := s'.toks } :=
    I2.call (ch := []) (Un.laid k hp fr) (I2.hok.laid k hp ⟨hlen, out.toList, cc, vals_of_ints hi, hg'⟩) (by rw [g]; exact I2.bare) (fun _ z => nomatch z)
  have e : s' = { { s1 with heap := h', toks := tk } with heap := s'.heap, gens := s'.gens, drawn := s'.drawn, toks := s'.toks } := by
    cases s'
    cases s1
    cases o
    rfl
  rw [e]
  exact ⟨.ref p, _, J, rfl, q p fr⟩
end
def ssetD : D → Option D
  | .list xs => (match intsOf xs with
    | some ns => if ns.length < 60 then some (.list ((ssI ns).map PyData.int)) else none
    | none => none)
  | _ => none
section
variable {X : Cx} {P : Par2} {pv : List (Nat × V)} {M : List Md} {W : WX} {k : Nat}
/-- sorted(set(x)) -/
theorem TO.sset {e : Expr} {oa : Om} {fa : Fn'} {p p2 pos pos2 : Pos} (C : CtxOk X P k) (hg : Gl X "sorted") (hm : X.mg "sorted" = none) (hg2 : Gl X "set") (hm2 : X.mg "set" = none) (ha : TO X P pv M W e oa fa) (la : oa.flat M = true)
    (hs : starEach [e] X.env = (false, eval e X.env) :: starEach [] X.env := by rfl) :
    TO X P pv M W (.Call (.Name "sorted" p) [.Call (.Name "set" p2) [e] [] pos2] [] pos) (.tm (.lst .frz)) (un1 ssetD fa) :=
  ⟨(pe_sset C.hc hg hm hg2 hm2 ha.pe hs).imp fun σ H Q h => one_view ha la h (fun B G F es d z v H' w r hg kq => by
    cases r <;> simp only [ssetD, reduceCtorEq] at hg
    rename_i a vs ds ea r
    split at hg
    · rename_i ns en
      split at hg
      · rename_i hn
        cases hg
        have e1 := intsOf_some en
        subst e1
        have e2 := r.ints
        subst e2
        exact ⟨a, ns, rfl, SqL.of ea, hn, fun p hp => kq _ _ _ (w.lst0 (RFs.of_ints _) hp) fun _ z => z⟩
      · cases hg
    · cases hg), fun _ z => nomatch z⟩
end
end Z

set_option maxRecDepth 100000
set_option maxHeartbeats 1000000
namespace Z
open PySem PySem.Spec PyProof.Rows L2

/-! ### what may be shown -/
mutual
def rk : D → Bool
  | .none => true
  | .bool _ => true
  | .int i => decide (i.natAbs.log2 < 1920)
  | .str x => x.cps.toList.all fun c => decide (c < 16 ^ 8)
  | .list xs => rkAll xs
  | .tuple xs => rkAll xs
  | .dict kvs => rkKv kvs
def rkAll : List D → Bool
  | [] => true
  | x :: xs => rk x && rkAll xs
def rkKv : List (D × D) → Bool
  | [] => true
  | (k, v) :: r => rk k && rk v && rkKv r
end
mutual
def wt : D → Nat
  | .none => 5
  | .bool _ => 5
  | .int i => i.natAbs.log2 + 2
  | .str x => 10 * x.length + 2
  | .list xs => wtAll xs + 4
  | .tuple xs => wtAll xs + 4
  | .dict kvs => wtKv kvs + 4
def wtAll : List D → Nat
  | [] => 0
  | x :: xs => wt x + 2 + wtAll xs
def wtKv : List (D × D) → Nat
  | [] => 0
  | (k, v) :: r => wt k + wt v + 4 + wtKv r
end
theorem listText_len (ts : List Str) : (listText ts).length ≤ piled ts + 2 := by
  cases ts with
  | nil => decide
  | cons t r =>
    have h := textFrom_length_pos r 1 (("[" : Str) ++ (if (0 : Nat) > 0 then ", " else "" : String) ++ t) (Nat.succ_pos 0)
    have e : ((("[" : Str) ++ (if (0 : Nat) > 0 then ", " else "" : String) ++ t)).length = 1 + t.length := by
      rw [strLen_append, strLen_append]
      rfl
    show (textFrom 0 "[" (t :: r) ++ "]").length ≤ _
    rw [strLen_append]
    have hY : (textFrom 0 "[" (t :: r)).length = (textFrom 1 (("[" : Str) ++ (if (0 : Nat) > 0 then ", " else "" : String) ++ t) r).length := rfl
    have e3 : (("]" : String) : Str).length = 1 := rfl
    rw [hY, h, e, piled_cons, e3]
    omega
theorem join_len2 (ts : List Str) : (Str.join ", " ts).length ≤ piled ts := by
  cases ts with
  | nil => decide
  | cons t r =>
    have := join_length_add (t :: r) (by simp)
    omega
theorem tupleText_len (ts : List Str) : (tupleText ts).length ≤ piled ts + 4 := by
  unfold tupleText
  rw [strLen_append, strLen_append]
  have e1 : (("(" : String) : Str).length = 1 := rfl
  have e3 : ((if ts.length == 1 then ",)" else ")" : String) : Str).length ≤ 2 := by split <;> decide
  have := join_len2 ts
  rw [e1]
  omega
theorem dictText_len (ts : List Str) : (dictText ts).length ≤ piled ts + 4 := by
  unfold dictText
  rw [strLen_append, strLen_append]
  have e1 : (("{" : String) : Str).length = 1 := rfl
  have e3 : (("}" : String) : Str).length = 1 := rfl
  have := join_len2 ts
  rw [e1, e3]
  omega
mutual
theorem shown_len : ∀ d : D, rk d = true → d.showable = true ∧ d.shown.length ≤ wt d
  | .none, _ => by
    simp only [PyData.showable, PyData.shown, wt]
    decide
  | .bool b, _ => by
    cases b <;> simp only [PyData.showable, PyData.shown, wt] <;> decide
  | .int i, h => by
    simp only [rk, decide_eq_true_eq] at h
    refine ⟨by simpa [PyData.showable] using h, ?_⟩
    simp only [PyData.shown, wt]
    rw [PySem.ofString_length]
    exact int_text_length_le (k := i.natAbs.log2 + 1) (by omega) (by omega)
  | .str x, h => by
    simp only [rk, List.all_eq_true, decide_eq_true_eq] at h
    exact ⟨by simp [PyData.showable], by simpa only [PyData.shown, wt] using StrLaws.reprText_len x h⟩
  | .list xs, h => by
    obtain ⟨h1, h2⟩ := shownAll_len xs (by simpa only [rk] using h)
    refine ⟨by simpa only [PyData.showable] using h1, ?_⟩
    simp only [PyData.shown, wt]
    have := listText_len (PyData.shownAll xs)
    omega
  | .tuple xs, h => by
    obtain ⟨h1, h2⟩ := shownAll_len xs (by simpa only [rk] using h)
    refine ⟨by simpa only [PyData.showable] using h1, ?_⟩
    simp only [PyData.shown, wt]
    have := tupleText_len (PyData.shownAll xs)
    omega
  | .dict kvs, h => by
    obtain ⟨h1, h2⟩ := shownKv_len kvs (by simpa only [rk] using h)
    refine ⟨by simpa only [PyData.showable] using h1, ?_⟩
    simp only [PyData.shown, wt]
    have := dictText_len (PyData.shownKv kvs)
    omega
theorem shownAll_len : ∀ xs : List D, rkAll xs = true → PyData.showableAll xs = true ∧ piled (PyData.shownAll xs) ≤ wtAll xs
  | [], _ => by
    simp only [PyData.showableAll, PyData.shownAll, wtAll, piled_nil]
    decide
  | x :: xs, h => by
    simp only [rkAll, Bool.and_eq_true] at h
    obtain ⟨a1, a2⟩ := shown_len x h.1
    obtain ⟨b1, b2⟩ := shownAll_len xs h.2
    refine ⟨by simp only [PyData.showableAll, a1, b1, Bool.and_self], ?_⟩
    simp only [PyData.shownAll, wtAll, piled_cons]
    omega
theorem shownKv_len : ∀ xs : List (D × D), rkKv xs = true → PyData.showableKv xs = true ∧ piled (PyData.shownKv xs) ≤ wtKv xs
  | [], _ => by
    simp only [PyData.showableKv, PyData.shownKv, wtKv, piled_nil]
    decide
  | (k, v) :: xs, h => by
    simp only [rkKv, Bool.and_eq_true] at h
    obtain ⟨a1, a2⟩ := shown_len k h.1.1
    obtain ⟨c1, c2⟩ := shown_len v h.1.2
    obtain ⟨b1, b2⟩ := shownKv_len xs h.2
    refine ⟨by simp only [PyData.showableKv, a1, b1, c1, Bool.and_self], ?_⟩
    simp only [PyData.shownKv, wtKv, piled_cons]
    rw [strLen_append, strLen_append]
    have e : ((": " : String) : Str).length = 2 := rfl
    rw [e]
    omega
end
def fit (d : D) : Prop := rk d = true ∧ d.depth ≤ 64 ∧ wt d ≤ 16777216
theorem reprD_fit {d : D} (h : fit d) : reprD d = some (.str d.shown) := by
  obtain ⟨h1, h2⟩ := shown_len d h.1
  unfold reprD
  rw [if_pos ⟨h1, h.2.1, by have := h.2.2; rw [sizeLine_eq]; omega⟩]
theorem eqD_str (x y : Str) : eqD (.str x) (.str y) = some (.bool (x == y)) := rfl
theorem neD_str (x y : Str) : neD (.str x) (.str y) = some (.bool (!(x == y))) := rfl
theorem eqD_int (i j : Int) : eqD (.int i) (.int j) = some (.bool (i == j)) := by
  simp [eqD, SeqAt.shaped, PyData.canLay0, PyData.depth, PyData.eqv]
theorem neD_int (i j : Int) : neD (.int i) (.int j) = some (.bool (!(i == j))) := by
  simp [neD, SeqAt.shaped, PyData.canLay0, PyData.depth, PyData.eqv]
end Z

set_option maxRecDepth 100000
set_option maxHeartbeats 1000000
namespace Z
open PySem PySem.Spec PyProof.Rows L2

/-! ### combinators, by rewriting -/
section
@[simp] theorem x_seq (f g : FnS) (ρ : Env') : seqF f g ρ = (f ρ >>= fun fl => match fl with | .nx ρ' => g ρ' | o => .ok o) := rfl
@[simp] theorem x_set (i : Nat) (fa : Fn') (ρ : Env') : setF i fa ρ = (fa ρ >>= fun x => .ok (.nx (x.2.set i x.1))) := rfl
@[simp] theorem x_ret (fa : Fn') (ρ : Env') : retF fa ρ = (fa ρ >>= fun x => .ok (.ret x.1 x.2)) := rfl
@[simp] theorem x_ex (fa : Fn') (ρ : Env') : exF fa ρ = (fa ρ >>= fun x => .ok (.nx x.2)) := rfl
@[simp] theorem x_if (fc : Fn') (f g : FnS) (ρ : Env') : ifF fc f g ρ = (fc ρ >>= fun x => match x.1 with | .bool true => f x.2 | .bool false => g x.2 | _ => .bad) := rfl
@[simp] theorem x_b2 (g : D → D → Option D) (fa fb : Fn') (ρ : Env') : bin2 g fa fb ρ = (fa ρ >>= fun x => fb x.2 >>= fun y => ofO ((g x.1 y.1).map fun z => (z, y.2))) := rfl
@[simp] theorem x_b2S (g : D → D → Option D) (i : Nat) (fb : Fn') (ρ : Env') : bin2S g i fb ρ = (fb ρ >>= fun y => ofO ((g (y.2.getD i .none) y.1).map fun z => (z, y.2))) := rfl
@[simp] theorem x_v (i : Nat) (ρ : Env') : rdVar i ρ = .ok (ρ.getD i .none, ρ) := rfl
@[simp] theorem x_c (d : D) (ρ : Env') : cF d ρ = .ok (d, ρ) := rfl
@[simp] theorem x_m (g : List D → Option D) (f : FnA) (ρ : Env') : mapA g f ρ = (f ρ >>= fun x => ofO ((g x.1).map fun z => (z, x.2))) := rfl
@[simp] theorem x_cons (fa : Fn') (fr : FnA) (ρ : Env') : consA fa fr ρ = (fa ρ >>= fun x => fr x.2 >>= fun y => .ok (x.1 :: y.1, y.2)) := rfl
@[simp] theorem x_consS (i : Nat) (fr : FnA) (ρ : Env') : consS i fr ρ = (fr ρ >>= fun y => .ok (y.2.getD i .none :: y.1, y.2)) := rfl
@[simp] theorem x_app (fa fk : FnA) (ρ : Env') : appA fa fk ρ = (fa ρ >>= fun x => fk x.2 >>= fun y => .ok (x.1 ++ y.1, y.2)) := rfl
@[simp] theorem x_nil (ρ : Env') : nilA ρ = .ok ([], ρ) := rfl
@[simp] theorem x_u (g : D → Option D) (fa : Fn') (ρ : Env') : un1 g fa ρ = (fa ρ >>= fun x => ofO ((g x.1).map fun z => (z, x.2))) := rfl
@[simp] theorem x_sk (ρ : Env') : skipF ρ = .ok (.nx ρ) := rfl
@[simp] theorem x_brk (ρ : Env') : brkF ρ = .ok (.brk ρ) := rfl
@[simp] theorem x_ct (ρ : Env') : ctF ρ = .ok (.ct ρ) := rfl
@[simp] theorem x_yes (ρ : Env') : yesF ρ = .ok (.bool true, ρ) := rfl
@[simp] theorem x_tp (i : Nat) (g : D → Option D) (ρ : Env') : tapeF i g ρ = ofO ((g (ρ.getD i .none)).map fun z => (z, ρ)) := rfl
@[simp] theorem x_ite (fc fa fb : Fn') (ρ : Env') : iteF fc fa fb ρ = (fc ρ >>= fun x => match x.1 with | .bool true => fa x.2 | .bool false => fb x.2 | _ => .bad) := rfl
@[simp] theorem x_not (fa : Fn') (ρ : Env') : notF fa ρ = (fa ρ >>= fun x => match x.1 with | .bool b => .ok (.bool (!b), x.2) | _ => .bad) := rfl
@[simp] theorem x_and (fa fb : Fn') (ρ : Env') : andF fa fb ρ = (fa ρ >>= fun x => match x.1 with | .bool true => fb x.2 | .bool false => .ok (.bool false, x.2) | _ => .bad) := rfl
@[simp] theorem x_or (fa fb : Fn') (ρ : Env') : orF fa fb ρ = (fa ρ >>= fun x => match x.1 with | .bool true => .ok (.bool true, x.2) | .bool false => fb x.2 | _ => .bad) := rfl
@[simp] theorem x_par (is : List Nat) (fa : FnA) (ρ : Env') : parF is fa ρ = (fa ρ >>= fun x => parK is x.1 x.2) := rfl
@[simp] theorem x_asg (b : Bd) (fa : Fn') (ρ : Env') : asgF b fa ρ = (fa ρ >>= fun x => match b x.1 x.2 with | some ρ1 => .ok (.nx ρ1) | none => .bad) := rfl
@[simp] theorem x_for (fs : FnI) (b : Bd) (f : FnS) (ρ : Env') : forF fs b f ρ = (fs ρ >>= fun x => loopF b f x.1 x.2) := rfl
@[simp] theorem x_comp (fs : FnI) (b : Bd) (t fe : Fn') (vs : List Nat) (ρ : Env') : compF fs b t fe vs ρ = (fs ρ >>= fun x => compL b t fe vs x.1 [] x.2 >>= fun y => .ok (.list y.1, y.2)) := rfl
@[simp] theorem x_seqI (fa : Fn') (ρ : Env') : seqI fa ρ = (fa ρ >>= fun x => ofO ((seqD x.1).map fun ds => (ds, x.2))) := rfl
@[simp] theorem x_rngI (fa : FnA) (ρ : Env') : rngI fa ρ = (fa ρ >>= fun x => ofO ((rngO x.1).map fun ds => (ds, x.2))) := rfl
@[simp] theorem x_enumI (fa : FnA) (ρ : Env') : enumI fa ρ = (fa ρ >>= fun x => ofO ((match x.1 with | [d] => (seqD d).map enumD | _ => none).map fun ds => (ds, x.2))) := rfl
@[simp] theorem x_chain (g g' : D → D → Option D) (fa fb fc : Fn') (ρ : Env') : chainF g g' fa fb fc ρ = (fa ρ >>= fun x => fb x.2 >>= fun y => match g x.1 y.1 with
  | some (.bool true) => fc y.2 >>= fun z => ofO ((g' y.1 z.1).map fun q => (q, z.2))
  | some (.bool false) => .ok (.bool false, y.2)
  | _ => .bad) := rfl
end

/-! ### loops -/
theorem loop_inv {b : Bd} {f : FnS} (I : Nat → Env' → Prop) : ∀ (ds : List D) (n : Nat) (ρ : Env'), I n ρ →
    (∀ (i : Nat) (d : D) (ρ : Env'), ds[i]? = some d → I (n + i) ρ → ∃ ρ1 ρ2, b d ρ = some ρ1 ∧ (f ρ1 = .ok (.nx ρ2) ∨ f ρ1 = .ok (.ct ρ2)) ∧ I (n + i + 1) ρ2) →
    ∃ ρ', loopF b f ds ρ = .ok (.nx ρ') ∧ I (n + ds.length) ρ'
  | [], n, ρ, h, _ => ⟨ρ, rfl, h⟩
  | d :: ds, n, ρ, h, k => by
    obtain ⟨ρ1, ρ2, e1, e2, h2⟩ := k 0 d ρ rfl h
    obtain ⟨ρ', e3, h3⟩ := loop_inv I ds (n + 1) ρ2 h2 fun i d ρ e hi => by
      have := k (i + 1) d ρ (by simpa using e) (by rw [show n + (i + 1) = n + 1 + i by omega]; exact hi)
      rw [show n + (i + 1) + 1 = n + 1 + i + 1 by omega] at this
      exact this
    refine ⟨ρ', ?_, by rw [show n + (d :: ds).length = n + 1 + ds.length by simp; omega]; exact h3⟩
    show (match b d ρ with | some ρ1 => thenL (loopF b f ds) (f ρ1) | none => .bad) = _
    rw [e1]
    rcases e2 with e2 | e2 <;> (show thenL (loopF b f ds) (f ρ1) = _; rw [e2]; exact e3)
/-- the same from the begin -/
theorem loop_inv0 {b : Bd} {f : FnS} (I : Nat → Env' → Prop) (ds : List D) (ρ : Env') (h : I 0 ρ)
    (k : ∀ (i : Nat) (d : D) (ρ : Env'), ds[i]? = some d → I i ρ → ∃ ρ1 ρ2, b d ρ = some ρ1 ∧ (f ρ1 = .ok (.nx ρ2) ∨ f ρ1 = .ok (.ct ρ2)) ∧ I (i + 1) ρ2) :
    ∃ ρ', loopF b f ds ρ = .ok (.nx ρ') ∧ I ds.length ρ' := by
  have := loop_inv I ds 0 ρ h fun i d ρ e hi => by
    have := k i d ρ e (by simpa using hi)
    simpa using this
  simpa using this
/-! ### comprehensions -/
theorem comp_inv {b : Bd} {t fe : Fn'} {vs : List Nat} (I : Nat → List D → Env' → Prop) : ∀ (ds : List D) (n : Nat) (acc : List D) (ρ : Env'), I n acc ρ →
    (∀ (i : Nat) (d : D) (acc : List D) (ρ : Env'), ds[i]? = some d → I (n + i) acc ρ → ∃ ρ1, b d ρ = some ρ1 ∧
      ((∃ ρ2 ρ3 y, t ρ1 = .ok (.bool true, ρ2) ∧ fe ρ2 = .ok (y, ρ3) ∧ acc.length < sizeLine ∧ I (n + i + 1) (acc ++ [y]) (wipeE ρ3 vs)) ∨ (∃ ρ2, t ρ1 = .ok (.bool false, ρ2) ∧ I (n + i + 1) acc (wipeE ρ2 vs)))) →
    ∃ acc' ρ', compL b t fe vs ds acc ρ = .ok (acc', ρ') ∧ I (n + ds.length) acc' ρ'
  | [], n, acc, ρ, h, _ => ⟨acc, ρ, rfl, h⟩
  | d :: ds, n, acc, ρ, h, k => by
    have next : ∀ acc2 ρ2, I (n + 1) acc2 ρ2 → ∃ acc' ρ', compL b t fe vs ds acc2 ρ2 = .ok (acc', ρ') ∧ I (n + (d :: ds).length) acc' ρ' := fun acc2 ρ2 h2 => by
      have := comp_inv I ds (n + 1) acc2 ρ2 h2 fun i d acc ρ e hi => by
        have := k (i + 1) d acc ρ (by simpa using e) (by rw [show n + (i + 1) = n + 1 + i by omega]; exact hi)
        rw [show n + (i + 1) + 1 = n + 1 + i + 1 by omega] at this
        exact this
      rw [show n + (d :: ds).length = n + 1 + ds.length by simp; omega]
      exact this
    obtain ⟨ρ1, e1, c⟩ := k 0 d acc ρ rfl h
    rcases c with ⟨ρ2, ρ3, y, e2, e3, hz, h2⟩ | ⟨ρ2, e2, h2⟩
    · obtain ⟨acc', ρ', e4, h4⟩ := next _ _ h2
      refine ⟨acc', ρ', ?_, h4⟩
      rw [compL, e1]
      show (noX (t ρ1) >>= _) = _
      rw [e2]
      show (noX (fe ρ2) >>= _) = _
      rw [e3]
      show (if acc.length < sizeLine then compL b t fe vs ds (acc ++ [y]) (wipeE ρ3 vs) else .bad) = _
      rw [if_pos hz]
      exact e4
    · obtain ⟨acc', ρ', e4, h4⟩ := next _ _ h2
      refine ⟨acc', ρ', ?_, h4⟩
      rw [compL, e1]
      show (noX (t ρ1) >>= _) = _
      rw [e2]
      exact e4
theorem comp_inv0 {b : Bd} {t fe : Fn'} {vs : List Nat} (I : Nat → List D → Env' → Prop) (ds : List D) (ρ : Env') (h : I 0 [] ρ)
    (k : ∀ (i : Nat) (d : D) (acc : List D) (ρ : Env'), ds[i]? = some d → I i acc ρ → ∃ ρ1, b d ρ = some ρ1 ∧
      ((∃ ρ2 ρ3 y, t ρ1 = .ok (.bool true, ρ2) ∧ fe ρ2 = .ok (y, ρ3) ∧ acc.length < sizeLine ∧ I (i + 1) (acc ++ [y]) (wipeE ρ3 vs)) ∨ (∃ ρ2, t ρ1 = .ok (.bool false, ρ2) ∧ I (i + 1) acc (wipeE ρ2 vs)))) :
    ∃ acc' ρ', compL b t fe vs ds [] ρ = .ok (acc', ρ') ∧ I ds.length acc' ρ' := by
  have := comp_inv I ds 0 [] ρ h fun i d acc ρ e hi => by
    have := k i d acc ρ e (by simpa using hi)
    simpa using this
  simpa using this
/-- a comprehension without a draw -/
theorem comp_pure {b : Bd} {t fe : Fn'} {vs : List Nat} {ρ : Env'} (p : D → Bool) (g : D → D) : ∀ (ds : List D) (acc : List D), acc.length + ds.length ≤ sizeLine →
    (∀ d ∈ ds, ∃ ρ1, b d ρ = some ρ1 ∧ t ρ1 = .ok (.bool (p d), ρ1) ∧ (p d = true → fe ρ1 = .ok (g d, ρ1)) ∧ wipeE ρ1 vs = ρ) → compL b t fe vs ds acc ρ = .ok (acc ++ (ds.filter p).map g, ρ)
  | [], acc, _, _ => by simp [compL]
  | d :: ds, acc, hz, k => by
    have hz : acc.length + (ds.length + 1) ≤ sizeLine := hz
    obtain ⟨ρ1, e1, e2, e3, e4⟩ := k d List.mem_cons_self
    rw [compL, e1]
    show (noX (t ρ1) >>= _) = _
    rw [e2]
    cases hp : p d with
    | true =>
      show (noX (fe ρ1) >>= _) = _
      rw [e3 hp]
      show (if acc.length < sizeLine then compL b t fe vs ds (acc ++ [g d]) (wipeE ρ1 vs) else .bad) = _
      rw [if_pos (by omega), e4, comp_pure p g ds (acc ++ [g d]) (by simp; omega) fun d hd => k d (List.mem_cons_of_mem _ hd)]
      simp [List.filter_cons, hp]
    | false =>
      show compL b t fe vs ds acc (wipeE ρ1 vs) = _
      rw [e4, comp_pure p g ds acc (by omega) fun d hd => k d (List.mem_cons_of_mem _ hd)]
      simp [List.filter_cons, hp]
theorem comp_map {b : Bd} {fe : Fn'} {vs : List Nat} {ρ : Env'} (g : D → D) (ds : List D) (hz : ds.length ≤ sizeLine) (k : ∀ d ∈ ds, ∃ ρ1, b d ρ = some ρ1 ∧ fe ρ1 = .ok (g d, ρ1) ∧ wipeE ρ1 vs = ρ) : compL b yesF fe vs ds [] ρ = .ok (ds.map g, ρ) := by
  have := comp_pure (t := yesF) (fun _ => true) g ds [] (by simpa using hz) fun d hd => by
    obtain ⟨ρ1, e1, e2, e3⟩ := k d hd
    exact ⟨ρ1, e1, rfl, fun _ => e2, e3⟩
  rw [List.filter_eq_self.mpr fun _ _ => rfl] at this
  simpa using this
/-! ### numbers -/
theorem okMul_l {i : Int} (j : Int) (h1 : -(2 ^ 64) < i) (h2 : i < 2 ^ 64) : okMul i j = true := by
  unfold okMul
  rw [cb_true h1, cb_true h2]
  simp
theorem okMul_r (i : Int) {j : Int} (h1 : -(2 ^ 64) < j) (h2 : j < 2 ^ 64) : okMul i j = true := by
  unfold okMul
  rw [cb_true h1, cb_true h2]
  simp
theorem log2_small {n : Nat} (h : n < 2 ^ 64) : n.log2 < 64 := by
  by_cases h0 : n = 0
  · subst h0; decide
  · exact (Nat.log2_lt h0).mpr h
theorem okDiv_small {i j : Int} (h1 : 0 < j) (h2 : j < 2 ^ 64) : okDiv i j = true := by
  unfold okDiv
  rw [cb_true h1, cb_true (by have := log2_small (n := j.natAbs) (by omega); omega)]
  rfl
theorem okMod_pos {i j : Int} (h1 : 0 < j) : okMod i j = true := decide_eq_true h1
end Z

set_option maxRecDepth 100000
set_option maxHeartbeats 1000000
namespace Z
open PySem

@[simp] theorem x_call (fn : FnV) (p : List Nat) (io : List (Option Nat)) (fa : FnA) (ρ : Env') : callF fn p io fa ρ = (fa ρ >>= fun x => match fn (permL .none p x.1) with
  | .ok (d, ds') => if ds'.length = io.length then .ok (d, setIo io ds' x.2) else .bad
  | .exc c xs _ => if io.all (·.isNone) = true then .exc c xs x.2 else .bad
  | .bad => .bad) := rfl
@[simp] theorem permL_n {α : Type} (d : α) (l : List α) : permL d [] l = [] := rfl
@[simp] theorem permL_c {α : Type} (d : α) (j : Nat) (p : List Nat) (l : List α) : permL d (j :: p) l = l.getD j d :: permL d p l := rfl
@[simp] theorem setIo_n (io : List (Option Nat)) (d : D) (ds : List D) (ρ : Env') : setIo (none :: io) (d :: ds) ρ = setIo io ds ρ := rfl
@[simp] theorem setIo_s (i : Nat) (io : List (Option Nat)) (d : D) (ds : List D) (ρ : Env') : setIo (some i :: io) (d :: ds) ρ = (setIo io ds ρ).set i d := rfl
@[simp] theorem setIo_e (ds : List D) (ρ : Env') : setIo [] ds ρ = ρ := rfl
@[simp] theorem x_methF (i : Nat) (g : List D → List D → Option (D × List D)) (fa : FnA) (ρ : Env') : methF i g fa ρ = (fa ρ >>= fun x => match x.2.getD i .none with
  | .list l => (match g l x.1 with
    | some (z, l') => .ok (z, x.2.set i (.list l'))
    | none => .bad)
  | _ => .bad) := rfl
@[simp] theorem x_setIt (i : Nat) (fe fj : Fn') (ρ : Env') : setItF i fe fj ρ = (fe ρ >>= fun x => fj x.2 >>= fun y => setItK i x.1 y.2 (y.2.getD i .none) y.1) := rfl
@[simp] theorem x_index (fo fe : Fn') (ρ : Env') : indexF fo fe ρ = (fo ρ >>= fun x => ofO (isL x.1) >>= fun ds => fe x.2 >>= fun y => ofO ((indexD ds y.1).map fun z => (z, y.2))) := rfl
@[simp] theorem x_d1 (fk fv : Fn') (ρ : Env') : dict1F fk fv ρ = (fk ρ >>= fun x => fv x.2 >>= fun y => ofO ((keyD x.1).map fun _ => (.dict [(x.1, y.1)], y.2))) := rfl
@[simp] theorem x_sli (fa : Fn') (fl fh : Option Fn') (ρ : Env') : sliF fa fl fh ρ = (fa ρ >>= fun x => partF fl x.2 >>= fun l => partF fh l.2 >>= fun h => ofO ((sliD l.1 h.1 x.1).map fun z => (z, h.2))) := rfl
@[simp] theorem x_p0 (ρ : Env') : partF none ρ = .ok (none, ρ) := rfl
@[simp] theorem x_p1 (f : Fn') (ρ : Env') : partF (some f) ρ = (f ρ >>= fun y => match y.1 with | .int i => .ok (some i, y.2) | _ => .bad) := rfl
@[simp] theorem x_shade (i : Nat) (f : Fn') (ρ : Env') : shadeF i f ρ = (match f ρ with
  | .ok x => .ok (x.1, x.2.set i (ρ.getD i .none))
  | .exc c xs ρ' => .exc c xs (ρ'.set i (ρ.getD i .none))
  | .bad => .bad) := rfl
@[simp] theorem x_name (i : Nat) (d : D) (ρ : Env') : nameB i d ρ = some (ρ.set i d) := rfl
@[simp] theorem x_nilB (ρ : Env') : nilB [] ρ = some ρ := rfl
@[simp] theorem x_consB (b : Bd) (c : Bds) (d : D) (ds : List D) (ρ : Env') : consB b c (d :: ds) ρ = (b d ρ).bind fun ρ1 => c ds ρ1 := rfl
@[simp] theorem x_tupB (n : Nat) (c : Bds) (ds : List D) (ρ : Env') : tupB n c (.tuple ds) ρ = if ds.length = n then c ds ρ else none := rfl
@[simp] theorem x_tupBl (n : Nat) (c : Bds) (ds : List D) (ρ : Env') : tupB n c (.list ds) ρ = if ds.length = n then c ds ρ else none := rfl
@[simp] theorem x_par2 (i j : Nat) (d e : D) (ρ : Env') : parK [i, j] [d, e] ρ = .ok (.nx ((ρ.set i d).set j e)) := rfl
@[simp] theorem x_par3 (i j l : Nat) (d e f : D) (ρ : Env') : parK [i, j, l] [d, e, f] ρ = .ok (.nx (((ρ.set i d).set j e).set l f)) := rfl
@[simp] theorem x_wn (ρ : Env') : wipeE ρ [] = ρ := rfl
@[simp] theorem x_wc (ρ : Env') (v : Nat) (vs : List Nat) : wipeE ρ (v :: vs) = (wipeE ρ vs).set v .none := rfl
/-! operations -/
@[simp] theorem o_add (i j : Int) : addD (.int i) (.int j) = some (.int (i + j)) := rfl
@[simp] theorem o_sub (i j : Int) : subD (.int i) (.int j) = some (.int (i - j)) := rfl
@[simp] theorem o_mul (i j : Int) : mulD (.int i) (.int j) = if okMul i j = true then some (.int (i * j)) else none := rfl
@[simp] theorem o_div (i j : Int) : fdivD (.int i) (.int j) = if okDiv i j = true then some (.int (i / j)) else none := rfl
@[simp] theorem o_mod (i j : Int) : modD (.int i) (.int j) = if okMod i j = true then some (.int (i % j)) else none := rfl
@[simp] theorem o_neg (i : Int) : negD (.int i) = some (.int (-i)) := rfl
@[simp] theorem o_lt (i j : Int) : ltD (.int i) (.int j) = some (.bool (decide (i < j))) := rfl
@[simp] theorem o_le (i j : Int) : leD (.int i) (.int j) = some (.bool (decide (i ≤ j))) := rfl
@[simp] theorem o_gt (i j : Int) : gtD (.int i) (.int j) = some (.bool (decide (j < i))) := rfl
@[simp] theorem o_ge (i j : Int) : geD (.int i) (.int j) = some (.bool (decide (j ≤ i))) := rfl
@[simp] theorem o_eq (i j : Int) : eqD (.int i) (.int j) = some (.bool (i == j)) := eqD_int i j
@[simp] theorem o_ne (i j : Int) : neD (.int i) (.int j) = some (.bool (!(i == j))) := neD_int i j
@[simp] theorem o_eqS (x y : Str) : eqD (.str x) (.str y) = some (.bool (x == y)) := rfl
@[simp] theorem o_neS (x y : Str) : neD (.str x) (.str y) = some (.bool (!(x == y))) := rfl
@[simp] theorem o_one (g : D → Option D) (x : D) : one g [x] = g x := rfl
@[simp] theorem o_two (g : D → D → Option D) (x y : D) : two g [x, y] = g x y := rfl
@[simp] theorem o_int (i : Int) : intOfD (.int i) = some (.int i) := rfl
@[simp] theorem o_intb (b : Bool) : intOfD (.bool b) = some (.int (if b then 1 else 0)) := rfl
@[simp] theorem o_abs (i : Int) : absD (.int i) = some (.int (if i < 0 then -i else i)) := rfl
@[simp] theorem o_lenL (ds : List D) : lenD (.list ds) = some (.int ds.length) := rfl
@[simp] theorem o_lenT (ds : List D) : lenD (.tuple ds) = some (.int ds.length) := rfl
@[simp] theorem o_seqL (ds : List D) : seqD (.list ds) = some ds := rfl
@[simp] theorem o_seqT (ds : List D) : seqD (.tuple ds) = some ds := rfl
@[simp] theorem o_idxL (ds : List D) (i : Int) : idxD (.list ds) (.int i) = L2.atI ds i := rfl
@[simp] theorem o_idxT (ds : List D) (i : Int) : idxD (.tuple ds) (.int i) = L2.atI ds i := rfl
@[simp] theorem o_isL (ds : List D) : isL (.list ds) = some ds := rfl
theorem p63 : (2 : Int) ^ 63 = 9223372036854775808 := by rfl
theorem p62 : (2 : Int) ^ 62 = 4611686018427387904 := by rfl
theorem okRep_of {n : Nat} {k : Int} (h0 : -1000000000 ≤ k) (h1 : k ≤ 1000000000) (h2 : n * k.toNat ≤ sizeLine) : okRep n k = true := by
  unfold okRep
  rw [p63, cb_true (by omega), cb_true (by omega), cb_true h2]
  rfl
theorem powD_of {i j : Int} (h0 : 0 ≤ j) (h1 : (Builtin.Int.intBits i : Int) * j ≤ 2 ^ 27) : powD (.int i) (.int j) = some (.int (i ^ j.toNat)) := by
  refine if_pos ?_
  unfold okPow
  rw [cb_true h0, cb_true h1]
  rfl
theorem mulL_of {xs : List D} {k : Int} (h0 : -1000000000 ≤ k) (h1 : k ≤ 1000000000) (h2 : xs.length * k.toNat ≤ sizeLine) : mulL (.list xs) (.int k) = some (.list (List.replicate k.toNat xs).flatten) :=
  if_pos (okRep_of h0 h1 h2)
theorem mulD_L {xs : List D} {k : Int} (h0 : -1000000000 ≤ k) (h1 : k ≤ 1000000000) (h2 : xs.length * k.toNat ≤ sizeLine) : mulD (.list xs) (.int k) = some (.list (List.replicate k.toNat xs).flatten) :=
  if_pos (okRep_of h0 h1 h2)
theorem mulD_T {xs : List D} {k : Int} (h0 : -1000000000 ≤ k) (h1 : k ≤ 1000000000) (h2 : xs.length * k.toNat ≤ sizeLine) : mulD (.tuple xs) (.int k) = some (.tuple (List.replicate k.toNat xs).flatten) :=
  if_pos (okRep_of h0 h1 h2)
theorem addL_of {xs ys : List D} (h : xs.length + ys.length ≤ 16777216) : addL (.list xs) (.list ys) = some (.list (xs ++ ys)) := if_pos (by rw [sizeLine_eq]; exact h)
theorem addD_L {xs ys : List D} (h : xs.length + ys.length ≤ 16777216) : addD (.list xs) (.list ys) = some (.list (xs ++ ys)) := if_pos (by rw [sizeLine_eq]; exact h)
theorem addD_T {xs ys : List D} (h : xs.length + ys.length ≤ 16777216) : addD (.tuple xs) (.tuple ys) = some (.tuple (xs ++ ys)) := if_pos (by rw [sizeLine_eq]; exact h)
theorem okR_of {k : Int} (h0 : -1000000000000000000 ≤ k) (h1 : k ≤ 1000000000000000000) : okR k = true := by
  unfold okR
  rw [p62, cb_true (by omega), cb_true (by omega)]
  rfl
theorem rgOk_sm {a b : Int} (h0 : -1000000 ≤ a) (h1 : a ≤ 1000000) (h2 : -1000000 ≤ b) (h3 : b ≤ 1000000) : rgOk a b = true := by
  unfold rgOk
  rw [okR_of (by omega) (by omega), okR_of (by omega) (by omega), cb_true (by omega)]
  rfl
theorem lstA_of {ds : List D} (h : ds.length ≤ 16777216) : lstA ds = some (.list ds) := by
  unfold lstA
  rw [if_pos (by rw [sizeLine_eq]; exact h)]
theorem tupA_of {ds : List D} (h : ds.length ≤ 16777216) : tupA ds = some (.tuple ds) := by
  unfold tupA
  rw [if_pos (by rw [sizeLine_eq]; exact h)]
theorem atI_nat {α : Type} (xs : List α) (n : Nat) : L2.atI xs (n : Int) = xs[n]? := by
  unfold L2.atI L2.ixN
  rw [if_pos (by omega)]
  by_cases h : n < xs.length
  · rw [if_pos (by omega)]
    simp
  · rw [if_neg (by omega), List.getElem?_eq_none (by omega)]
    rfl
theorem atI_of {α : Type} {xs : List α} {i : Int} (h0 : 0 ≤ i) : L2.atI xs i = xs[i.toNat]? := by
  obtain ⟨n, rfl⟩ := Int.eq_ofNat_of_zero_le h0
  rw [atI_nat]
  rfl
theorem atI_last {α : Type} {xs : List α} (h : xs ≠ []) : L2.atI xs (-1) = some (xs.getLast h) := by
  have hl : 0 < xs.length := List.length_pos_iff.mpr h
  unfold L2.atI L2.ixN
  rw [if_neg (by decide), if_pos (by omega)]
  have : ((-1 : Int) + (xs.length : Int)).toNat = xs.length - 1 := by omega
  show xs[((-1 : Int) + (xs.length : Int)).toNat]? = _
  rw [this, List.getLast_eq_getElem, List.getElem?_eq_getElem]
theorem run0 {mr : Md} {np n : Nat} {c : FnS} {ds : List D} {d : D} {ρ : Env'} (h : c (ds ++ List.replicate n .none) = .ok (.ret d ρ)) : runV0 mr np n c ds = .ok (d, ρ.take np) := by
  unfold runV0
  rw [h]
theorem run1 {mr : Md} {np n : Nat} {c : FnS} {ds : List D} {d : D} {ρ ρ0 ρ1 : Env'} (h : c ρ0 = .ok (.ret d ρ)) (he : ds ++ List.replicate n .none = ρ0) (hρ : ρ.take np = ρ1) : runV0 mr np n c ds = .ok (d, ρ1) := by
  subst he hρ
  exact run0 h
/-- told by repr, one thing twice -/
theorem repr_same {d : D} (h : fit d) : one reprD [d] = some (.str d.shown) := reprD_fit h
end Z

set_option maxRecDepth 100000
set_option maxHeartbeats 1000000
namespace Z
open PySem
theorem seq_go {f g : FnS} {ρ ρ1 : Env'} {r : R Fl} (h : f ρ = .ok (.nx ρ1)) (h2 : g ρ1 = r) : seqF f g ρ = r := by
  rw [x_seq, h]
  exact h2
theorem cut_take (ds : List D) (i : Nat) : cutD ds none (some (i : Int)) = ds.take i := by
  unfold cutD
  have h0 : HT.sIx ds.length 0 none = 0 := rfl
  rw [h0]
  simp only [List.drop_zero, Nat.sub_zero]
  by_cases h : i ≤ ds.length
  · have : HT.sIx ds.length ds.length (some (i : Int)) = i := by
      rw [HT.sIx_nat]
      omega
    rw [this]
  · have : HT.sIx ds.length ds.length (some (i : Int)) = ds.length := by
      rw [HT.sIx_nat]
      omega
    rw [this, List.take_of_length_le (Nat.le_refl _), List.take_of_length_le (by omega)]
theorem cut_drop (ds : List D) (i : Nat) : cutD ds (some (i : Int)) none = ds.drop i := by
  unfold cutD
  have h1 : HT.sIx ds.length ds.length none = ds.length := rfl
  rw [h1, HT.sIx_nat]
  by_cases h : i ≤ ds.length
  · rw [Nat.min_eq_left h, List.take_of_length_le (by simp)]
  · rw [Nat.min_eq_right (by omega), List.drop_eq_nil_of_le (by omega), List.drop_eq_nil_of_le (by omega)]
    simp
theorem cut_sub {ds : List D} {lo hi : Option Int} : ∀ x ∈ cutD ds lo hi, x ∈ ds := fun x h => List.mem_of_mem_drop (List.mem_of_mem_take h)
theorem cut_len (ds : List D) (lo hi : Option Int) : (cutD ds lo hi).length ≤ ds.length := by
  unfold cutD
  simp
  omega
@[simp] theorem o_sliT (lo hi : Option Int) (ds : List D) : sliD lo hi (.tuple ds) = some (.tuple (cutD ds lo hi)) := rfl
@[simp] theorem o_sliL (lo hi : Option Int) (ds : List D) : sliD lo hi (.list ds) = some (.list (cutD ds lo hi)) := rfl
@[simp] theorem o_tupL (ds : List D) : tupleD (.list ds) = some (.tuple ds) := rfl
@[simp] theorem o_tupT (ds : List D) : tupleD (.tuple ds) = some (.tuple ds) := rfl
@[simp] theorem o_lstL (ds : List D) : listD (.list ds) = some (.list ds) := rfl
@[simp] theorem o_lstT (ds : List D) : listD (.tuple ds) = some (.list ds) := rfl
/-- small and told -/
def gd (w n : Nat) (x : D) : Prop := rk x = true ∧ wt x ≤ w ∧ x.depth ≤ n
theorem gd.up {w n w' n' : Nat} {x : D} (h : gd w n x) (hw : w ≤ w') (hn : n ≤ n') : gd w' n' x := ⟨h.1, by have := h.2.1; omega, by have := h.2.2; omega⟩
theorem gd.fit {w n : Nat} {x : D} (h : gd w n x) (hw : w ≤ 16777216) (hn : n ≤ 64) : fit x := ⟨h.1, by have := h.2.2; omega, by have := h.2.1; omega⟩
theorem gd_all {w n : Nat} : ∀ {ds : List D}, (∀ x ∈ ds, gd w n x) → rkAll ds = true ∧ wtAll ds ≤ (w + 2) * ds.length ∧ PyData.depthAll ds ≤ n
  | [], _ => by simp [rkAll, wtAll, PyData.depthAll]
  | d :: ds, h => by
    obtain ⟨a1, a2, a3⟩ := h d List.mem_cons_self
    obtain ⟨b1, b2, b3⟩ := gd_all (ds := ds) fun x hx => h x (List.mem_cons_of_mem _ hx)
    refine ⟨by simp [rkAll, a1, b1], ?_, ?_⟩
    · simp only [wtAll, List.length_cons]
      rw [Nat.mul_add]
      omega
    · simp only [PyData.depthAll]
      omega
theorem gd_tuple {w n l : Nat} {ds : List D} (h : ∀ x ∈ ds, gd w n x) (hl : ds.length ≤ l) : gd ((w + 2) * l + 4) (n + 1) (.tuple ds) := by
  obtain ⟨a, b, c⟩ := gd_all h
  have hm : (w + 2) * ds.length ≤ (w + 2) * l := Nat.mul_le_mul_left _ hl
  refine ⟨by simpa [rk] using a, ?_, by simp only [PyData.depth]; omega⟩
  simp only [wt]
  omega
theorem gd_list {w n l : Nat} {ds : List D} (h : ∀ x ∈ ds, gd w n x) (hl : ds.length ≤ l) : gd ((w + 2) * l + 4) (n + 1) (.list ds) := by
  obtain ⟨a, b, c⟩ := gd_all h
  have hm : (w + 2) * ds.length ≤ (w + 2) * l := Nat.mul_le_mul_left _ hl
  refine ⟨by simpa [rk] using a, ?_, by simp only [PyData.depth]; omega⟩
  simp only [wt]
  omega
theorem gd_int {i : Int} (h : i.natAbs < 2 ^ 64) : gd 66 0 (.int i) := by
  have := log2_small h
  refine ⟨by simp only [rk, decide_eq_true_eq]; omega, by simp only [wt]; omega, by simp [PyData.depth]⟩
theorem gd_none : gd 66 0 .none := ⟨rfl, by decide, by decide⟩
theorem gd_bool (b : Bool) : gd 66 0 (.bool b) := ⟨rfl, by simp [wt], by simp [PyData.depth]⟩
/-- members of lists, one by one -/
theorem all_cons {p : D → Prop} {x : D} {xs : List D} (h : p x) (k : ∀ y ∈ xs, p y) : ∀ y ∈ x :: xs, p y := fun y hy => by
  rcases List.mem_cons.mp hy with rfl | hy
  · exact h
  · exact k y hy
theorem all_nil {p : D → Prop} : ∀ y ∈ ([] : List D), p y := fun _ h => nomatch h
theorem all_app {p : D → Prop} {xs ys : List D} (h : ∀ y ∈ xs, p y) (k : ∀ y ∈ ys, p y) : ∀ y ∈ xs ++ ys, p y := fun y hy => (List.mem_append.mp hy).elim (h y) (k y)
theorem all_cut {p : D → Prop} {xs : List D} {lo hi : Option Int} (h : ∀ y ∈ xs, p y) : ∀ y ∈ cutD xs lo hi, p y := fun y hy => h y (cut_sub y hy)
theorem all_rep {p : D → Prop} {xs : List D} {n : Nat} (h : ∀ y ∈ xs, p y) : ∀ y ∈ (List.replicate n xs).flatten, p y := fun y hy => by
  obtain ⟨l, hl, hy⟩ := List.mem_flatten.mp hy
  rw [(List.mem_replicate.mp hl).2] at hy
  exact h y hy
theorem rep_len {xs : List D} {n : Nat} : (List.replicate n xs).flatten.length = n * xs.length := by simp
theorem isi_int (d : D) : isiD "int" d = some (.bool (match d with | .int _ | .bool _ => true | _ => false)) := by cases d <;> rfl
theorem isi_bool (d : D) : isiD "bool" d = some (.bool (match d with | .bool _ => true | _ => false)) := by cases d <;> rfl
theorem isi_tup (d : D) : isiD "tuple" d = some (.bool (match d with | .tuple _ => true | _ => false)) := by cases d <;> rfl
theorem slv : sizeLine = 16777216 := sizeLine_eq
/-- ints of a range -/
theorem rng_get {a b : Int} {i : Nat} {x : D} (h : (rngD a b)[i]? = some x) : x = .int (a + i) ∧ a + i < b := by
  unfold rngD at h
  rw [List.getElem?_map] at h
  cases e : (List.range (b - a).toNat)[i]? with
  | none => rw [e] at h; cases h
  | some k =>
    rw [e] at h
    obtain ⟨hk, ek⟩ := List.getElem?_eq_some_iff.mp e
    simp at hk ek
    subst ek
    simp at h
    exact ⟨h.symm, by omega⟩
theorem rng_len (a b : Int) : (rngD a b).length = (b - a).toNat := by simp [rngD]
theorem rngO1 {k : Int} (h0 : -1000000000000000000 ≤ k) (h1 : k ≤ 1000000000000000000) : rngO [.int k] = some (rngD 0 k) := by
  show (if okR k then some (rngD 0 k) else none) = _
  rw [if_pos (okR_of h0 h1)]
theorem app_of {xs : List D} {x : D} (h : xs.length < 16777216) : appendG xs [x] = some (.none, xs ++ [x]) := by
  show (if xs.length < sizeLine then _ else none) = _
  rw [if_pos (by rw [slv]; exact h)]
theorem ext_of {xs ys : List D} (h : xs.length + ys.length ≤ 16777216) : extendG xs [.list ys] = some (.none, xs ++ ys) := by
  show (if _ then _ else _) = _
  rw [if_pos (by rw [slv]; exact h)]
end Z
namespace Z
open PySem
theorem all_bools (f : D → Bool) (ds : List D) : allD (.list (ds.map fun x => .bool (f x))) = some (.bool (ds.all f)) := by
  have h : ∀ ds : List D, boolsOf (ds.map fun x => .bool (f x)) = some (ds.map f) := fun ds => by
    induction ds with
    | nil => rfl
    | cons d ds ih => simp [boolsOf, ih]
  show (boolsOf (ds.map fun x => .bool (f x))).map _ = _
  rw [h]
  simp
theorem wtAll_len : ∀ ds : List D, 2 * ds.length ≤ wtAll ds
  | [] => by simp [wtAll]
  | d :: ds => by
    have := wtAll_len ds
    simp only [wtAll, List.length_cons]
    omega
theorem fit_len {ds : List D} (h : wt (.tuple ds) ≤ 16777216) : ds.length ≤ 8388608 := by
  have := wtAll_len ds
  simp only [wt] at h
  omega
/-- the first of a row that is bad -/
def errGo (bad : Nat → D → Bool) : List D → Nat → Option Nat
  | [], _ => none
  | x :: xs, n => if bad n x then some n else errGo bad xs (n + 1)
theorem errGo_lt {bad : Nat → D → Bool} : ∀ (xs : List D) (n i : Nat), errGo bad xs n = some i → i < n + xs.length
  | [], n, i, h => by simp [errGo] at h
  | x :: xs, n, i, h => by
    by_cases c : bad n x = true
    · simp [errGo, c] at h
      simp
      omega
    · simp only [errGo, if_neg c] at h
      have := errGo_lt xs (n + 1) i h
      simp
      omega
theorem set_pre {pre : List D} {a b d : D} : (pre ++ [a, b]).set pre.length d = pre ++ [d, b] := by
  rw [List.set_append_right _ _ (Nat.le_refl _)]
  simp
theorem set_pre1 {pre : List D} {a b d : D} : (pre ++ [a, b]).set (pre.length + 1) d = pre ++ [a, d] := by
  rw [List.set_append_right _ _ (by omega)]
  simp
theorem enum_find {body : FnS} {bad : Nat → D → Bool} {res : Nat → D} {pre : List D} : ∀ (xs : List D) (n : Nat) (a b : D), (∀ (i : Nat) (x : D), x ∈ xs → i < n + xs.length → body (pre ++ [.int (i : Int), x]) = if bad i x then .ok (.ret (res i) (pre ++ [.int (i : Int), x])) else .ok (.nx (pre ++ [.int (i : Int), x]))) →
    ∃ a' b', loopF (tupB 2 (consB (nameB pre.length) (consB (nameB (pre.length + 1)) nilB))) body (xs.mapIdx fun i x => .tuple [.int ((i + n : Nat) : Int), x]) (pre ++ [a, b]) = .ok (match errGo bad xs n with | some i => .ret (res i) (pre ++ [a', b']) | none => .nx (pre ++ [a', b']))
  | [], n, a, b, _ => ⟨a, b, rfl⟩
  | x :: xs, n, a, b, hb => by
    have e := hb n x List.mem_cons_self (by simp)
    have em : (x :: xs).mapIdx (fun i x => PyData.tuple [.int ((i + n : Nat) : Int), x]) = .tuple [.int (n : Int), x] :: xs.mapIdx fun i x => .tuple [.int ((i + (n + 1) : Nat) : Int), x] := by
      rw [List.mapIdx_cons]
      congr 1
      · rw [Nat.zero_add]
      · congr 1
        funext i x
        rw [show i + 1 + n = i + (n + 1) by omega]
    have eb : tupB 2 (consB (nameB pre.length) (consB (nameB (pre.length + 1)) nilB)) (.tuple [.int (n : Int), x]) (pre ++ [a, b]) = some (pre ++ [.int (n : Int), x]) := by
      rw [x_tupB, if_pos (show [PyData.int (n : Int), x].length = 2 from rfl)]
      show some (((pre ++ [a, b]).set pre.length (.int (n : Int))).set (pre.length + 1) x) = _
      rw [set_pre, set_pre1]
    rw [em]
    by_cases c : bad n x = true
    · rw [if_pos c] at e
      refine ⟨.int (n : Int), x, ?_⟩
      rw [loopF, eb]
      show thenL _ (body (pre ++ [.int (n : Int), x])) = _
      rw [e]
      simp [errGo, c, thenL]
    · rw [if_neg c] at e
      obtain ⟨a', b', ih⟩ := enum_find (body := body) (bad := bad) (res := res) (pre := pre) xs (n + 1) (.int (n : Int)) x fun i y hy hi => hb i y (List.mem_cons_of_mem _ hy) (by simp; omega)
      refine ⟨a', b', ?_⟩
      rw [loopF, eb]
      show thenL _ (body (pre ++ [.int (n : Int), x])) = _
      rw [e]
      simp only [errGo, if_neg c]
      exact ih
theorem enum_find0 {body : FnS} {bad : Nat → D → Bool} {res : Nat → D} {pre : List D} (xs : List D) (a b : D) (hb : ∀ (i : Nat) (x : D), x ∈ xs → i < xs.length → body (pre ++ [.int (i : Int), x]) = if bad i x then .ok (.ret (res i) (pre ++ [.int (i : Int), x])) else .ok (.nx (pre ++ [.int (i : Int), x]))) :
    ∃ a' b', loopF (tupB 2 (consB (nameB pre.length) (consB (nameB (pre.length + 1)) nilB))) body (enumD xs) (pre ++ [a, b]) = .ok (match errGo bad xs 0 with | some i => .ret (res i) (pre ++ [a', b']) | none => .nx (pre ++ [a', b'])) :=
  enum_find xs 0 a b fun i x hx hi => hb i x hx (by omega)
theorem shaped_of {d : D} (h : d.canLay0 = true) (k : d.depth ≤ 64) : SeqAt.shaped d = true := by
  simp [SeqAt.shaped, h, k]
theorem lay_all : ∀ {ds : List D}, (∀ x ∈ ds, x.canLay0 = true) → PyData.canLayAll0 ds = true
  | [], _ => rfl
  | d :: ds, h => by simp [PyData.canLayAll0, h d List.mem_cons_self, lay_all fun x hx => h x (List.mem_cons_of_mem _ hx)]
theorem dep_all {n : Nat} : ∀ {ds : List D}, (∀ x ∈ ds, x.depth ≤ n) → PyData.depthAll ds ≤ n
  | [], _ => by simp [PyData.depthAll]
  | d :: ds, h => by
    have a := h d List.mem_cons_self
    have b := dep_all (ds := ds) fun x hx => h x (List.mem_cons_of_mem _ hx)
    simp only [PyData.depthAll]
    omega
/-- L != [] -/
theorem ne_nil {ds : List D} (h : ∀ x ∈ ds, x.canLay0 = true ∧ x.depth ≤ 60) : neD (.list ds) (.list []) = some (.bool (!ds.isEmpty)) := by
  show (if _ then _ else _) = _
  rw [if_pos ⟨shaped_of (by simpa [PyData.canLay0] using lay_all fun x hx => (h x hx).1) (by have := dep_all fun x hx => (h x hx).2; simp only [PyData.depth]; omega), by decide⟩]
  cases ds <;> rfl
end Z
namespace Z
open PySem
/-- the places at which f holds -/
def fidx (f : D → Bool) : List D → Nat → List D
  | [], _ => []
  | x :: xs, n => if f x then .int (n : Int) :: fidx f xs (n + 1) else fidx f xs (n + 1)
theorem fidx_int (f : D → Bool) : ∀ (xs : List D) (n : Nat), ∀ y ∈ fidx f xs n, ∃ k : Nat, y = .int (k : Int)
  | [], _, y, h => nomatch h
  | x :: xs, n, y, h => by
    by_cases c : f x = true
    · simp only [fidx, if_pos c] at h
      rcases List.mem_cons.mp h with rfl | h
      · exact ⟨n, rfl⟩
      · exact fidx_int f xs (n + 1) y h
    · simp only [fidx, if_neg c] at h
      exact fidx_int f xs (n + 1) y h
theorem fidx_err (f : D → Bool) : ∀ (xs : List D) (n : Nat), match errGo (fun _ x => f x) xs n with
    | some i => ∃ r, fidx f xs n = .int (i : Int) :: r
    | none => fidx f xs n = []
  | [], n => rfl
  | x :: xs, n => by
    by_cases c : f x = true
    · simp [errGo, fidx, c]
    · have := fidx_err f xs (n + 1)
      simp only [errGo, fidx, if_neg c]
      exact this
theorem fidx_of (f : D → Bool) (p : D → Bool) (g : D → D) : ∀ (xs : List D) (n : Nat), (∀ (i : Nat) (x : D), p (.tuple [.int (i : Int), x]) = f x ∧ g (.tuple [.int (i : Int), x]) = .int (i : Int)) → ((xs.mapIdx fun i x => PyData.tuple [.int ((i + n : Nat) : Int), x]).filter p).map g = fidx f xs n
  | [], n, _ => rfl
  | x :: xs, n, h => by
    have em : (x :: xs).mapIdx (fun i x => PyData.tuple [.int ((i + n : Nat) : Int), x]) = .tuple [.int (n : Int), x] :: xs.mapIdx fun i x => .tuple [.int ((i + (n + 1) : Nat) : Int), x] := by
      rw [List.mapIdx_cons]
      congr 1
      · rw [Nat.zero_add]
      · congr 1
        funext i x
        rw [show i + 1 + n = i + (n + 1) by omega]
    have ih := fidx_of f p g xs (n + 1) h
    rw [em, List.filter_cons]
    by_cases c : f x = true
    · rw [if_pos (by rw [(h n x).1]; exact c), List.map_cons, ih, (h n x).2]
      simp [fidx, c]
    · rw [if_neg (by rw [(h n x).1]; exact c), ih]
      simp [fidx, c]
def snd2 : D → D
  | .tuple [_, x] => x
  | x => x
def fst2 : D → D
  | .tuple [x, _] => x
  | x => x
theorem comp_enumf {b : Bd} {t fe : Fn'} {vs : List Nat} {ρ : Env'} (f : D → Bool) (xs : List D) (hz : xs.length ≤ 8388608)
    (k : ∀ (i : Nat) (x : D), x ∈ xs → ∃ ρ1, b (.tuple [.int (i : Int), x]) ρ = some ρ1 ∧ t ρ1 = .ok (.bool (f x), ρ1) ∧ (f x = true → fe ρ1 = .ok (.int (i : Int), ρ1)) ∧ wipeE ρ1 vs = ρ) : compL b t fe vs (enumD xs) [] ρ = .ok (fidx f xs 0, ρ) := by
  have := comp_pure (b := b) (t := t) (fe := fe) (vs := vs) (ρ := ρ) (fun d => f (snd2 d)) fst2 (enumD xs) [] (by rw [slv]; simp [enumD]; omega) fun d hd => by
    obtain ⟨i, hi, e⟩ := List.mem_iff_getElem.mp hd
    have hi' : i < xs.length := by simpa [enumD] using hi
    have e' : d = .tuple [.int (i : Int), xs[i]] := by
      rw [← e]
      simp [enumD]
    subst e'
    exact k i xs[i] (List.getElem_mem hi')
  rw [this]
  have h2 := fidx_of f (fun d => f (snd2 d)) fst2 xs 0 fun i x => ⟨rfl, rfl⟩
  have e3 : (xs.mapIdx fun i x => PyData.tuple [.int ((i + 0 : Nat) : Int), x]) = enumD xs := rfl
  rw [e3] at h2
  rw [h2]
  rfl
theorem fidx_ne (f : D → Bool) (xs : List D) (n : Nat) : neD (.list (fidx f xs n)) (.list []) = some (.bool (errGo (fun _ x => f x) xs n).isSome) := by
  rw [ne_nil fun y hy => by
    obtain ⟨k, rfl⟩ := fidx_int f xs n y hy
    exact ⟨rfl, by simp [PyData.depth]⟩]
  have := fidx_err f xs n
  cases e : errGo (fun _ x => f x) xs n with
  | none => rw [e] at this; rw [this]; rfl
  | some i =>
    rw [e] at this
    obtain ⟨r, er⟩ := this
    rw [er]
    rfl
theorem fidx_at (f : D → Bool) (xs : List D) (n : Nat) {i : Nat} (h : errGo (fun _ x => f x) xs n = some i) : L2.atI (fidx f xs n) 0 = some (.int (i : Int)) := by
  have := fidx_err f xs n
  rw [h] at this
  obtain ⟨r, er⟩ := this
  rw [er, show (0 : Int) = ((0 : Nat) : Int) from rfl, atI_nat]
  rfl
end Z
namespace Z
open PySem
theorem while_go {c : Fn'} {b : FnS} {f : Nat} {ρ ρ1 : Env'} {r : R Fl} (ht : c ρ = .ok (.bool true, ρ)) (hb : b ρ = .ok (.nx ρ1)) (hr : whileN c b f ρ1 = r) : whileN c b (f + 1) ρ = r := by
  rw [whileN, ht]
  show thenL (whileN c b f) (b ρ) = r
  rw [hb]
  exact hr
theorem while_end {c : Fn'} {b : FnS} {f : Nat} {ρ : Env'} (ht : c ρ = .ok (.bool false, ρ)) : whileN c b (f + 1) ρ = .ok (.nx ρ) := by
  rw [whileN, ht]
  rfl
theorem cut_mid (ds : List D) (i j : Nat) : cutD ds (some (i : Int)) (some (j : Int)) = (ds.drop i).take (j - i) := by
  unfold cutD
  rw [HT.sIx_nat, HT.sIx_nat]
  by_cases h1 : i ≤ ds.length
  · rw [Nat.min_eq_left h1]
    by_cases h2 : j ≤ ds.length
    · rw [Nat.min_eq_left h2]
    · rw [Nat.min_eq_right (by omega), List.take_of_length_le (by simp), List.take_of_length_le (by simp; omega)]
  · rw [Nat.min_eq_right (show ds.length ≤ i by omega), List.drop_eq_nil_of_le (Nat.le_refl _), List.drop_eq_nil_of_le (show ds.length ≤ i by omega)]
    simp
end Z
namespace Z
open PySem
theorem enum_findE {b : Bd} {body : FnS} {bad : Nat → D → Bool} {res : Nat → D} (env : D → D → Env') (hbd : ∀ (a c : D) (i : Nat) (x : D), b (.tuple [.int (i : Int), x]) (env a c) = some (env (.int (i : Int)) x)) : ∀ (xs : List D) (n : Nat) (a c : D), (∀ (i : Nat) (x : D), x ∈ xs → i < n + xs.length → body (env (.int (i : Int)) x) = if bad i x then .ok (.ret (res i) (env (.int (i : Int)) x)) else .ok (.nx (env (.int (i : Int)) x))) →
    ∃ a' c', loopF b body (xs.mapIdx fun i x => .tuple [.int ((i + n : Nat) : Int), x]) (env a c) = .ok (match errGo bad xs n with | some i => .ret (res i) (env a' c') | none => .nx (env a' c'))
  | [], n, a, c, _ => ⟨a, c, rfl⟩
  | x :: xs, n, a, c, hb => by
    have e := hb n x List.mem_cons_self (by simp)
    have em : (x :: xs).mapIdx (fun i x => PyData.tuple [.int ((i + n : Nat) : Int), x]) = .tuple [.int (n : Int), x] :: xs.mapIdx fun i x => .tuple [.int ((i + (n + 1) : Nat) : Int), x] := by
      rw [List.mapIdx_cons]
      congr 1
      · rw [Nat.zero_add]
      · congr 1
        funext i x
        rw [show i + 1 + n = i + (n + 1) by omega]
    rw [em]
    by_cases cb : bad n x = true
    · rw [if_pos cb] at e
      refine ⟨.int (n : Int), x, ?_⟩
      rw [loopF, hbd]
      show thenL _ (body (env (.int (n : Int)) x)) = _
      rw [e]
      simp [errGo, cb, thenL]
    · rw [if_neg cb] at e
      obtain ⟨a', c', ih⟩ := enum_findE (bad := bad) (res := res) env hbd xs (n + 1) (.int (n : Int)) x fun i y hy hi => hb i y (List.mem_cons_of_mem _ hy) (by simp; omega)
      refine ⟨a', c', ?_⟩
      rw [loopF, hbd]
      show thenL _ (body (env (.int (n : Int)) x)) = _
      rw [e]
      simp only [errGo, if_neg cb]
      exact ih
theorem enum_findE0 {b : Bd} {body : FnS} {bad : Nat → D → Bool} {res : Nat → D} (env : D → D → Env') (hbd : ∀ (a c : D) (i : Nat) (x : D), b (.tuple [.int (i : Int), x]) (env a c) = some (env (.int (i : Int)) x)) (xs : List D) (a c : D) (hb : ∀ (i : Nat) (x : D), x ∈ xs → i < xs.length → body (env (.int (i : Int)) x) = if bad i x then .ok (.ret (res i) (env (.int (i : Int)) x)) else .ok (.nx (env (.int (i : Int)) x))) :
    ∃ a' c', loopF b body (enumD xs) (env a c) = .ok (match errGo bad xs 0 with | some i => .ret (res i) (env a' c') | none => .nx (env a' c')) :=
  enum_findE env hbd xs 0 a c fun i x hx hi => hb i x hx (by omega)
end Z
namespace Z
open PySem
theorem comp_enumE {b : Bd} {t fe : Fn'} {vs : List Nat} (f : D → Bool) (env : D → D → Env') (hbd : ∀ (a c : D) (i : Nat) (x : D), b (.tuple [.int (i : Int), x]) (env a c) = some (env (.int (i : Int)) x)) (hw : ∀ a c, wipeE (env a c) vs = env .none .none) : ∀ (xs : List D) (n : Nat) (acc : List D) (a c : D), acc.length + xs.length ≤ 8388608 →
    (∀ (i : Nat) (x : D), x ∈ xs → t (env (.int (i : Int)) x) = .ok (.bool (f x), env (.int (i : Int)) x) ∧ fe (env (.int (i : Int)) x) = .ok (.int (i : Int), env (.int (i : Int)) x)) → ∃ a' c', compL b t fe vs (xs.mapIdx fun i x => .tuple [.int ((i + n : Nat) : Int), x]) acc (env a c) = .ok (acc ++ fidx f xs n, env a' c')
  | [], n, acc, a, c, _, _ => ⟨a, c, by simp [compL, fidx]⟩
  | x :: xs, n, acc, a, c, hz, hb => by
    simp only [List.length_cons] at hz
    obtain ⟨e1, e2⟩ := hb n x List.mem_cons_self
    have em : (x :: xs).mapIdx (fun i x => PyData.tuple [.int ((i + n : Nat) : Int), x]) = .tuple [.int (n : Int), x] :: xs.mapIdx fun i x => .tuple [.int ((i + (n + 1) : Nat) : Int), x] := by
      rw [List.mapIdx_cons]
      congr 1
      · rw [Nat.zero_add]
      · congr 1
        funext i x
        rw [show i + 1 + n = i + (n + 1) by omega]
    rw [em, compL, hbd]
    show ∃ a' c', (noX (t (env (.int (n : Int)) x)) >>= _) = _
    rw [e1]
    cases hf : f x with
    | true =>
      obtain ⟨a', c', ih⟩ := comp_enumE f env hbd hw xs (n + 1) (acc ++ [.int (n : Int)]) .none .none (by simp; omega) fun i y hy => hb i y (List.mem_cons_of_mem _ hy)
      refine ⟨a', c', ?_⟩
      show (noX (fe (env (.int (n : Int)) x)) >>= _) = _
      rw [e2]
      show (if acc.length < sizeLine then compL b t fe vs _ (acc ++ [.int (n : Int)]) (wipeE (env (.int (n : Int)) x) vs) else .bad) = _
      rw [if_pos (by rw [slv]; omega), hw, ih]
      simp [fidx, hf]
    | false =>
      obtain ⟨a', c', ih⟩ := comp_enumE f env hbd hw xs (n + 1) acc .none .none (by omega) fun i y hy => hb i y (List.mem_cons_of_mem _ hy)
      refine ⟨a', c', ?_⟩
      show compL b t fe vs _ acc (wipeE (env (.int (n : Int)) x) vs) = _
      rw [hw, ih]
      simp [fidx, hf]
theorem comp_enumE0 {b : Bd} {t fe : Fn'} {vs : List Nat} (f : D → Bool) (env : D → D → Env') (hbd : ∀ (a c : D) (i : Nat) (x : D), b (.tuple [.int (i : Int), x]) (env a c) = some (env (.int (i : Int)) x)) (hw : ∀ a c, wipeE (env a c) vs = env .none .none) (xs : List D) (a c : D) (hz : xs.length ≤ 8388608)
    (hb : ∀ (i : Nat) (x : D), x ∈ xs → t (env (.int (i : Int)) x) = .ok (.bool (f x), env (.int (i : Int)) x) ∧ fe (env (.int (i : Int)) x) = .ok (.int (i : Int), env (.int (i : Int)) x)) : ∃ a' c', compL b t fe vs (enumD xs) [] (env a c) = .ok (fidx f xs 0, env a' c') := by
  obtain ⟨a', c', e⟩ := comp_enumE f env hbd hw xs 0 [] a c (by simpa using hz) hb
  exact ⟨a', c', e⟩
end Z

set_option maxRecDepth 100000
set_option maxHeartbeats 1000000
namespace Z
open PySem
/-- told, small, and plain to compare -/
def gl (w n : Nat) (x : D) : Prop := gd w n x ∧ x.canLay0 = true
theorem gl.up {w n w' n' : Nat} {x : D} (h : gl w n x) (hw : w ≤ w') (hn : n ≤ n') : gl w' n' x := ⟨h.1.up hw hn, h.2⟩
theorem gl_tuple {w n l : Nat} {ds : List D} (h : ∀ x ∈ ds, gl w n x) (hl : ds.length ≤ l) : gl ((w + 2) * l + 4) (n + 1) (.tuple ds) :=
  ⟨gd_tuple (fun x hx => (h x hx).1) hl, by simpa [PyData.canLay0] using lay_all fun x hx => (h x hx).2⟩
theorem gl_list {w n l : Nat} {ds : List D} (h : ∀ x ∈ ds, gl w n x) (hl : ds.length ≤ l) : gl ((w + 2) * l + 4) (n + 1) (.list ds) :=
  ⟨gd_list (fun x hx => (h x hx).1) hl, by simpa [PyData.canLay0] using lay_all fun x hx => (h x hx).2⟩
theorem gl_int {i : Int} (h : i.natAbs < 2 ^ 64) : gl 66 0 (.int i) := ⟨gd_int h, rfl⟩
theorem gl_none : gl 66 0 .none := ⟨gd_none, rfl⟩
theorem gl_bool (b : Bool) : gl 66 0 (.bool b) := ⟨gd_bool b, rfl⟩
theorem eqD_refl {d : D} (h : d.canLay0 = true) (k : d.depth ≤ 64) : eqD d d = some (.bool true) := by
  cases hb : bothStr d d with
  | true =>
    obtain ⟨a, b, rfl, e⟩ := bothStr_of hb
    show some (PyData.bool (a == a)) = _
    simp
  | false => rw [eqD_other hb, if_pos ⟨shaped_of h k, shaped_of h k⟩, SeqAt.eqv_refl d h]
/-- a number of up to so many bits -/
theorem gd_big {i : Int} {b : Nat} (h : i.natAbs < 2 ^ b) (hb : b ≤ 1920) (h0 : 0 < b) : gd (b + 2) 0 (.int i) := by
  have : i.natAbs.log2 < b := by
    by_cases h0 : i.natAbs = 0
    · rw [h0]; simpa using ‹0 < b›
    · exact (Nat.log2_lt h0).mpr h
  refine ⟨by simp only [rk, decide_eq_true_eq]; omega, by simp only [wt]; omega, by simp [PyData.depth]⟩
theorem gl_big {i : Int} {b : Nat} (h : i.natAbs < 2 ^ b) (hb : b ≤ 1920) (h0 : 0 < b) : gl (b + 2) 0 (.int i) := ⟨gd_big h hb h0, rfl⟩
theorem gl.fit {w n : Nat} {x : D} (h : gl w n x) (hw : w ≤ 16777216) (hn : n ≤ 64) : fit x := h.1.fit hw hn
theorem gl.eq {w n : Nat} {x : D} (h : gl w n x) (hn : n ≤ 64) : eqD x x = some (.bool true) := eqD_refl h.2 (by have := h.1.2.2; omega)
end Z

set_option maxRecDepth 100000
set_option maxHeartbeats 1000000
namespace Z
open PySem
/-- a short text -/
def okS (n : Nat) (y : Str) : Prop := y.length ≤ n ∧ ∀ c ∈ y.cps.toList, c < 16 ^ 8
theorem gd_str {n : Nat} {y : Str} (h : okS n y) : gd (10 * n + 2) 0 (.str y) := by
  obtain ⟨h1, h2⟩ := h
  refine ⟨?_, by simp only [wt]; omega, by simp [PyData.depth]⟩
  simp only [rk, List.all_eq_true, decide_eq_true_eq]
  exact h2
theorem app_cps (x y : Str) : (x ++ y).cps.toList = x.cps.toList ++ y.cps.toList := by
  show (x.cps ++ y.cps).toList = _
  simp
theorem join_cps {P : Nat → Prop} : ∀ (ys : List Str), (∀ y ∈ ys, ∀ c ∈ y.cps.toList, P c) → ∀ c ∈ (Str.join ("" : Str) ys).cps.toList, P c
  | [], _, c, hc => by
    have : c ∈ ([] : List Nat) := hc
    exact nomatch this
  | [x], h, c, hc => h x List.mem_cons_self c hc
  | x :: y :: r, h, c, hc => by
    have hc : c ∈ (x ++ ("" : Str) ++ Str.join ("" : Str) (y :: r)).cps.toList := hc
    rw [app_cps, app_cps] at hc
    rcases List.mem_append.mp hc with hc | hc
    · rcases List.mem_append.mp hc with hc | hc
      · exact h x List.mem_cons_self c hc
      · have : c ∈ ([] : List Nat) := hc
        exact nomatch this
    · exact join_cps (y :: r) (fun z hz => h z (List.mem_cons_of_mem _ hz)) c hc
theorem sum_le {k : Nat} : ∀ {ys : List Str}, (∀ y ∈ ys, y.length ≤ k) → (ys.map (·.length)).sum ≤ ys.length * k
  | [], _ => by simp
  | y :: ys, h => by
    have a := h y List.mem_cons_self
    have b := sum_le (ys := ys) fun z hz => h z (List.mem_cons_of_mem _ hz)
    rw [List.map_cons, List.sum_cons, List.length_cons, Nat.succ_mul]
    omega
theorem join_ok {k : Nat} {ys : List Str} (h : ∀ y ∈ ys, okS k y) : okS (ys.length * k) (Txt.join ("" : Str) ys) := by
  have e : Txt.join ("" : Str) ys = Str.join ("" : Str) ys := by
    unfold Txt.join
    exact StrLaws.glued_eq_join _ _
  rw [e]
  refine ⟨?_, join_cps ys fun y hy => (h y hy).2⟩
  have h1 := StrLaws.join_length_le ("" : Str) ys
  have h2 := sum_le (k := k) fun y hy => (h y hy).1
  have h3 : (("" : String) : Str).length = 0 := rfl
  rw [h3] at h1
  omega
theorem strsOf_map : ∀ ys : List Str, strsOf (ys.map PyData.str) = some ys
  | [] => rfl
  | y :: ys => by
    show (strsOf (ys.map PyData.str)).map _ = _
    rw [strsOf_map ys]
    rfl
theorem joinD_of {k : Nat} {ys : List Str} (h : ∀ y ∈ ys, okS k y) (hl : ys.length * k ≤ 16777216) : joinD ("" : Str) (.list (ys.map PyData.str)) = some (.str (Txt.join ("" : Str) ys)) := by
  have h2 := sum_le (k := k) fun y hy => (h y hy).1
  have h3 : (("" : String) : Str).length = 0 := rfl
  unfold joinD
  simp only [strsOf_map]
  rw [if_pos (by rw [h3]; omega)]
theorem gd_d1 {w n : Nat} {k v : D} (hk : gd w n k) (hv : gd w n v) : gd (2 * w + 8) (n + 1) (.dict [(k, v)]) := by
  obtain ⟨a1, a2, a3⟩ := hk
  obtain ⟨b1, b2, b3⟩ := hv
  refine ⟨by simp [rk, rkKv, a1, b1], by simp only [wt, wtKv]; omega, ?_⟩
  simp only [PyData.depth, PyData.depthKv]
  omega
end Z

set_option maxRecDepth 100000
set_option maxHeartbeats 4000000
namespace K18
open PySem PySem.Spec PyProof.Rows L2 Z
noncomputable section
def c_is_integer : FnS := (retF (andF (un1 (isiD "int") (rdVar 0)) (notF (un1 (isiD "bool") (rdVar 0)))))
def v_is_integer : FnV := runV0 .frz 1 0 c_is_integer
def b_row_place_1 : FnS := (setF 2 (bin2 addD (bin2 mulD (rdVar 0) (rdVar 2)) (rdVar 3)))
def c_row_place : FnS := (seqF (setF 2 (cF (.int 0))) (seqF (forF (seqI (rdVar 1)) (nameB 3) b_row_place_1) (retF (rdVar 2))))
def v_row_place : FnV := runV0 .frz 2 2 c_row_place
def b_row_at_1 : FnS := (seqF (exF (methF 3 appendG (consA (bin2 modD (rdVar 2) (rdVar 0)) nilA))) (setF 2 (bin2 fdivD (rdVar 2) (rdVar 0))))
def c_row_at : FnS := (seqF (setF 3 (mapA lstA nilA)) (seqF (forF (rngI (consA (rdVar 1) nilA)) (nameB 4) b_row_at_1) (retF (mapA (one tupleD) (consA (un1 revD (rdVar 3)) nilA)))))
def v_row_at : FnV := runV0 .frz 3 2 c_row_at
def c_upper_item : FnS := (retF (bin2 idxD (bin2 idxD (rdVar 0) (rdVar 1)) (bin2 subD (rdVar 2) (rdVar 1))))
def v_upper_item : FnV := runV0 .frz 3 0 c_upper_item
def e_uppers_added_1 : Fn' := (bin2 modD (bin2 addD (rdVar 6) (rdVar 7)) (rdVar 0))
def b_uppers_added_2 : FnS := (exF (methF 3 appendG (consA (mapA (one tupleD) (consA (compF (zipI (consA (rdVar 4) (consA (rdVar 5) nilA))) (tupB 2 (consB (nameB 6) (consB (nameB 7) nilB))) yesF e_uppers_added_1 [6, 7]) nilA)) nilA)))
def c_uppers_added : FnS := (seqF (setF 3 (mapA lstA nilA)) (seqF (forF (zipI (consA (rdVar 1) (consA (rdVar 2) nilA))) (tupB 2 (consB (nameB 4) (consB (nameB 5) nilB))) b_uppers_added_2) (retF (mapA (one tupleD) (consS 3 nilA)))))
def v_uppers_added : FnV := runV0 .frz 3 5 c_uppers_added
def e_uppers_scaled_1 : Fn' := (bin2 modD (bin2 mulD (rdVar 1) (rdVar 4)) (rdVar 0))
def e_uppers_scaled_2 : Fn' := (mapA (one tupleD) (consA (compF (seqI (rdVar 3)) (nameB 4) yesF e_uppers_scaled_1 [4]) nilA))
def c_uppers_scaled : FnS := (retF (mapA (one tupleD) (consA (compF (seqI (rdVar 2)) (nameB 3) yesF e_uppers_scaled_2 [3]) nilA)))
def v_uppers_scaled : FnV := runV0 .frz 3 2 c_uppers_scaled
def e_plain_upper_1 : Fn' := (bin2 mulL (mapA lstA (consA (cF (.int 0)) nilA)) (bin2 subD (rdVar 1) (rdVar 4)))
def e_plain_upper_2 : Fn' := (mapA (one tupleD) (consA (rdVar 5) nilA))
def c_plain_upper : FnS := (seqF (setF 3 (compF (rngI (consA (rdVar 1) nilA)) (nameB 4) yesF e_plain_upper_1 [4])) (seqF (setIt2F 3 0 1 1 (rdVar 2)) (retF (mapA (one tupleD) (consA (compF (seqI (rdVar 3)) (nameB 5) yesF e_plain_upper_2 [5]) nilA)))))
def v_plain_upper : FnV := runV0 .frz 3 3 c_plain_upper
def b_laid_upper_1 : FnS := (exF (methF 1 extendX (consA (rdVar 2) nilA)))
def c_laid_upper : FnS := (seqF (setF 1 (mapA lstA nilA)) (seqF (forF (seqI (rdVar 0)) (nameB 2) b_laid_upper_1) (retF (mapA (one tupleD) (consS 1 nilA)))))
def v_laid_upper : FnV := runV0 .frz 1 2 c_laid_upper
def b_upper_of_laid_1 : FnS := (seqF (exF (methF 2 appendG (consA (mapA (one tupleD) (consA (sliF (rdVar 1) (some (rdVar 3)) (some (bin2 subD (bin2 addD (rdVar 3) (rdVar 0)) (rdVar 4)))) nilA)) nilA))) (setF 3 (bin2 subD (bin2 addD (rdVar 3) (rdVar 0)) (rdVar 4))))
def c_upper_of_laid : FnS := (seqF (parF [2, 3] (consA (mapA lstA nilA) (consA (cF (.int 0)) nilA))) (seqF (forF (rngI (consA (rdVar 0) nilA)) (nameB 4) b_upper_of_laid_1) (retF (mapA (one tupleD) (consS 2 nilA)))))
def v_upper_of_laid : FnV := runV0 .frz 2 3 c_upper_of_laid
def c_items_number : FnS := (retF (bin2 fdivD (bin2 mulD (rdVar 0) (bin2 addD (rdVar 0) (cF (.int 1)))) (cF (.int 2))))
def v_items_number : FnV := runV0 .frz 1 0 c_items_number
def e__law_bag_1 : Fn' := (mapA (one absD) (consA (rdVar 3) nilA))
def b__law_bag_2 : FnS := (setF 2 (bin2 modD (mapA (one intOfD) (consA (bin2 addD (bin2 addD (bin2 mulD (rdVar 2) (cF (.int 48271))) (bin2 modD (mapA (one intOfD) (consA (rdVar 3) nilA)) (cF (.int 2147483629)))) (cF (.int 5))) nilA)) (cF (.int 2147483647))))
def c__law_bag : FnS := (seqF (setF 1 (compF (seqI (scrF 0 63)) (nameB 3) yesF e__law_bag_1 [3])) (seqF (setF 2 (bin2 addD (cF (.int 19599)) (mapA (one lenD) (consS 1 nilA)))) (seqF (forF (seqI (rdVar 1)) (nameB 3) b__law_bag_2) (retF (bagNewF (un1 revLD (rdVar 1)) (rdVar 2))))))
def v__law_bag : FnV := runV0 .tape 1 3 c__law_bag
def b__law_draw_1 : FnS := (seqF (setF 2 (bagPopF 0)) (bagSetF 0 1 (iteF (bin2 (gtD) (rdVar 2) (bin2 powD (cF (.int 10)) (cF (.int 9)))) (rdVar 2) (cF (.int 0)))))
def t__law_draw_2 : Fn' := (andF (bin2 (eqD) (tapeF 0 (bagGetD 1)) (cF (.int 0))) (tapeF 0 bagHasD))
def c__law_draw : FnS := (seqF (whileF t__law_draw_2 b__law_draw_1) (seqF (ifF (bin2 (gtD) (tapeF 0 (bagGetD 1)) (cF (.int 0))) (seqF (setF 3 (bin2 modD (mapA (one intOfD) (consA (tapeF 0 (bagGetD 1)) nilA)) (rdVar 1))) (seqF (bagSetF 0 1 (bin2 fdivD (tapeF 0 (bagGetD 1)) (rdVar 1))) (retF (rdVar 3)))) skipF) (seqF (bagSetF 0 2 (bin2 modD (mapA (one intOfD) (consA (bin2 addD (bin2 mulD (tapeF 0 (bagGetD 2)) (cF (.int 48271))) (cF (.int 13))) nilA)) (cF (.int 2147483647)))) (retF (bin2 modD (mapA (one intOfD) (consA (bin2 fdivD (bin2 modD (mapA (one intOfD) (consA (bin2 mulD (tapeF 0 (bagGetD 2)) (tapeF 0 (bagGetD 2))) nilA)) (cF (.int 2147483629))) (cF (.int 7))) nilA)) (rdVar 1))))))
def v__law_draw : FnV := runV0 .frz 2 2 c__law_draw
def c__law_same : FnS := (retF (bin2 (eqD) (mapA (one reprD) (consA (rdVar 0) nilA)) (mapA (one reprD) (consA (rdVar 1) nilA))))
def v__law_same : FnV := runV0 .frz 2 0 c__law_same
def b__law_cut_1 : FnS := (seqF (exF (methF 2 appendG (consA (mapA (one tupleD) (consA (sliF (rdVar 0) (some (rdVar 3)) (some (bin2 addD (rdVar 3) (rdVar 4)))) nilA)) nilA))) (setF 3 (bin2 addD (rdVar 3) (rdVar 4))))
def c__law_cut : FnS := (seqF (parF [2, 3] (consA (mapA lstA nilA) (consA (cF (.int 0)) nilA))) (seqF (forF (seqI (rdVar 1)) (nameB 4) b__law_cut_1) (retF (mapA (one tupleD) (consS 2 nilA)))))
def v__law_cut : FnV := runV0 .frz 2 3 c__law_cut
def b__law_power_1 : FnS := (setF 2 (bin2 mulD (rdVar 2) (rdVar 0)))
def c__law_power : FnS := (seqF (setF 2 (cF (.int 1))) (seqF (forF (rngI (consA (rdVar 1) nilA)) (nameB 3) b__law_power_1) (retF (rdVar 2))))
def v__law_power : FnV := runV0 .frz 2 2 c__law_power
def b__law_digits_1 : FnS := (seqF (exF (methF 3 appendG (consA (bin2 modD (mapA (one intOfD) (consA (rdVar 2) nilA)) (rdVar 0)) nilA))) (setF 2 (bin2 fdivD (rdVar 2) (rdVar 0))))
def c__law_digits : FnS := (seqF (setF 3 (mapA lstA nilA)) (seqF (forF (rngI (consA (rdVar 1) nilA)) (nameB 4) b__law_digits_1) (retF (mapA (one tupleD) (consA (un1 revD (rdVar 3)) nilA)))))
def v__law_digits : FnV := runV0 .frz 3 2 c__law_digits
def b__law_place_1 : FnS := (setF 2 (bin2 addD (bin2 mulD (rdVar 2) (rdVar 0)) (rdVar 3)))
def c__law_place : FnS := (seqF (setF 2 (cF (.int 0))) (seqF (forF (seqI (rdVar 1)) (nameB 3) b__law_place_1) (retF (rdVar 2))))
def v__law_place : FnV := runV0 .frz 2 2 c__law_place
def b__law_laid_1 : FnS := (setF 1 (bin2 addD (rdVar 1) (rdVar 2)))
def c__law_laid : FnS := (seqF (setF 1 (mapA tupA nilA)) (seqF (forF (seqI (rdVar 0)) (nameB 2) b__law_laid_1) (retF (rdVar 1))))
def v__law_laid : FnV := runV0 .frz 1 2 c__law_laid
def c__law_is_number : FnS := (retF (andF (un1 (isiD "int") (rdVar 1)) (andF (notF (un1 (isiD "bool") (rdVar 1))) (chainF (leD) (ltD) (cF (.int 0)) (rdVar 1) (rdVar 0)))))
def v__law_is_number : FnV := runV0 .frz 2 0 c__law_is_number
def c__law_with : FnS := (retF (bin2 addD (bin2 addD (sliF (rdVar 0) none (some (rdVar 1))) (mapA tupA (consA (rdVar 2) nilA))) (sliF (rdVar 0) (some (bin2 addD (rdVar 1) (cF (.int 1)))) none)))
def v__law_with : FnV := runV0 .frz 3 0 c__law_with
def c_is_number : FnS := (retF (andF (callF v_is_integer [0] [none] (consA (rdVar 1) nilA)) (chainF (leD) (ltD) (cF (.int 0)) (rdVar 1) (rdVar 0))))
def v_is_number : FnV := runV0 .frz 2 0 c_is_number
def b_uppers_number_1 : FnS := (setF 2 (bin2 mulD (rdVar 2) (rdVar 0)))
def c_uppers_number : FnS := (seqF (setF 2 (cF (.int 1))) (seqF (forF (rngI (consA (callF v_items_number [0] [none] (consA (rdVar 1) nilA)) nilA)) (nameB 3) b_uppers_number_1) (retF (rdVar 2))))
def v_uppers_number : FnV := runV0 .frz 2 2 c_uppers_number
def c_upper_at : FnS := (retF (callF v_upper_of_laid [0, 1] [none, none] (consA (rdVar 1) (consA (callF v_row_at [0, 1, 2] [none, none, none] (consA (rdVar 0) (consA (callF v_items_number [0] [none] (consA (rdVar 1) nilA)) (consA (rdVar 2) nilA)))) nilA))))
def v_upper_at : FnV := runV0 .frz 3 0 c_upper_at
def c_upper_place : FnS := (retF (callF v_row_place [0, 1] [none, none] (consA (rdVar 0) (consA (callF v_laid_upper [0] [none] (consA (rdVar 1) nilA)) nilA))))
def v_upper_place : FnV := runV0 .frz 2 0 c_upper_place
def c__law_pick : FnS := (retF (bin2 idxD (rdVar 1) (callF v__law_draw [0, 1] [some 0, none] (consS 0 (consA (mapA (one lenD) (consA (rdVar 1) nilA)) nilA)))))
def v__law_pick : FnV := runV0 .frz 2 0 c__law_pick
def c__law_upper_of : FnS := (retF (callF v__law_cut [0, 1] [none, none] (consA (rdVar 1) (consA (mapA dnL (consA (rdVar 0) (consA (cF (.int 0)) (consA (un1 negD (cF (.int 1))) nilA)))) nilA))))
def v__law_upper_of : FnV := runV0 .frz 2 0 c__law_upper_of
def b__law_upper_fault_1 : FnS := (ifF (orF (notF (un1 (isiD "tuple") (rdVar 4))) (bin2 (neD) (mapA (one lenD) (consA (rdVar 4) nilA)) (bin2 subD (rdVar 1) (rdVar 3)))) (retF (mapA tupA (consA (cF (.str ("row" : Str))) (consA (rdVar 3) nilA)))) skipF)
def b__law_upper_fault_2 : FnS := (ifF (notF (callF v__law_is_number [0, 1] [none, none] (consA (rdVar 0) (consA (rdVar 6) nilA)))) (retF (mapA tupA (consA (cF (.str ("number" : Str))) (consA (rdVar 3) (consA (bin2 addD (rdVar 3) (rdVar 5)) nilA))))) skipF)
def b__law_upper_fault_3 : FnS := (forF (enumI (consA (rdVar 4) nilA)) (tupB 2 (consB (nameB 5) (consB (nameB 6) nilB))) b__law_upper_fault_2)
def c__law_upper_fault : FnS := (seqF (ifF (orF (notF (un1 (isiD "tuple") (rdVar 2))) (bin2 (neD) (mapA (one lenD) (consA (rdVar 2) nilA)) (rdVar 1))) (retF (cF (.str ("form" : Str)))) skipF) (seqF (forF (enumI (consA (rdVar 2) nilA)) (tupB 2 (consB (nameB 3) (consB (nameB 4) nilB))) b__law_upper_fault_1) (seqF (forF (enumI (consA (rdVar 2) nilA)) (tupB 2 (consB (nameB 3) (consB (nameB 4) nilB))) b__law_upper_fault_3) (retF (cF .none)))))
def v__law_upper_fault : FnV := runV0 .frz 3 4 c__law_upper_fault
def b__law_are_items_right_1 : FnS := (seqF (setF 5 (bin2 idxD (bin2 idxD (rdVar 2) (rdVar 3)) (bin2 subD (rdVar 4) (rdVar 3)))) (ifF (notF (callF v__law_same [0, 1] [none, none] (consA (mapA lstA (consA (callF v_upper_item [0, 1, 2] [none, none, none] (consA (rdVar 2) (consA (rdVar 3) (consA (rdVar 4) nilA)))) (consA (callF v_upper_item [2, 1, 0] [none, none, none] (consA (rdVar 4) (consA (rdVar 3) (consA (rdVar 2) nilA)))) nilA))) (consA (mapA lstA (consA (rdVar 5) (consA (rdVar 5) nilA))) nilA)))) (retF (cF (.bool false))) skipF))
def b__law_are_items_right_2 : FnS := (forF (seqI (un1 ssetD (mapA lstA (consA (rdVar 3) (consA (bin2 subD (rdVar 1) (cF (.int 1))) (consA (bin2 addD (rdVar 3) (callF v__law_draw [0, 1] [some 0, none] (consS 0 (consA (bin2 subD (rdVar 1) (rdVar 3)) nilA)))) nilA)))))) (nameB 4) b__law_are_items_right_1)
def c__law_are_items_right : FnS := (seqF (forF (rngI (consA (rdVar 1) nilA)) (nameB 3) b__law_are_items_right_2) (retF (cF (.bool true))))
def v__law_are_items_right : FnV := runV0 .frz 3 3 c__law_are_items_right
def b_upper_error_1 : FnS := (ifF (orF (notF (un1 (isiD "tuple") (rdVar 4))) (bin2 (neD) (mapA (one lenD) (consA (rdVar 4) nilA)) (bin2 subD (rdVar 1) (rdVar 3)))) (retF (mapA tupA (consA (cF (.str ("row" : Str))) (consA (rdVar 3) nilA)))) skipF)
def b_upper_error_2 : FnS := (ifF (notF (callF v_is_number [0, 1] [none, none] (consA (rdVar 0) (consA (rdVar 6) nilA)))) (retF (mapA tupA (consA (cF (.str ("number" : Str))) (consA (rdVar 3) (consA (bin2 addD (rdVar 3) (rdVar 5)) nilA))))) skipF)
def b_upper_error_3 : FnS := (forF (enumI (consA (rdVar 4) nilA)) (tupB 2 (consB (nameB 5) (consB (nameB 6) nilB))) b_upper_error_2)
def c_upper_error : FnS := (seqF (ifF (orF (notF (un1 (isiD "tuple") (rdVar 2))) (bin2 (neD) (mapA (one lenD) (consA (rdVar 2) nilA)) (rdVar 1))) (retF (cF (.str ("form" : Str)))) skipF) (seqF (forF (enumI (consA (rdVar 2) nilA)) (tupB 2 (consB (nameB 3) (consB (nameB 4) nilB))) b_upper_error_1) (seqF (forF (enumI (consA (rdVar 2) nilA)) (tupB 2 (consB (nameB 3) (consB (nameB 4) nilB))) b_upper_error_3) (retF (cF .none)))))
def v_upper_error : FnV := runV0 .frz 3 4 c_upper_error
def e__law_numbers_1 : Fn' := (callF v__law_draw [0, 1] [some 0, none] (consS 0 (consA (rdVar 1) nilA)))
def c__law_numbers : FnS := (seqF (setF 3 (callF v__law_draw [0, 1] [some 0, none] (consS 0 (consA (cF (.int 8)) nilA)))) (seqF (ifF (bin2 (ltD) (rdVar 3) (cF (.int 2))) (retF (iteF (bin2 (eqD) (rdVar 3) (cF (.int 0))) (bin2 mulD (mapA tupA (consA (cF (.int 0)) nilA)) (rdVar 2)) (bin2 mulD (mapA tupA (consA (bin2 subD (rdVar 1) (cF (.int 1))) nilA)) (rdVar 2)))) skipF) (seqF (ifF (andF (bin2 (eqD) (rdVar 3) (cF (.int 2))) (bin2 (gtD) (rdVar 2) (cF (.int 0)))) (seqF (setF 4 (callF v__law_pick [0, 1] [some 0, none] (consS 0 (consA (mapA lstA (consA (cF (.int 0)) (consA (bin2 subD (rdVar 2) (cF (.int 1))) (consA (callF v__law_draw [0, 1] [some 0, none] (consS 0 (consA (rdVar 2) nilA))) nilA)))) nilA)))) (retF (bin2 addD (bin2 addD (bin2 mulD (mapA tupA (consA (cF (.int 0)) nilA)) (rdVar 4)) (mapA tupA (consA (bin2 addD (cF (.int 1)) (callF v__law_draw [0, 1] [some 0, none] (consS 0 (consA (bin2 subD (rdVar 1) (cF (.int 1))) nilA)))) nilA))) (bin2 mulD (mapA tupA (consA (cF (.int 0)) nilA)) (bin2 subD (bin2 subD (rdVar 2) (cF (.int 1))) (rdVar 4)))))) skipF) (retF (mapA (one tupleD) (consA (compF (rngI (consA (rdVar 2) nilA)) (nameB 5) yesF e__law_numbers_1 [5]) nilA))))))
def v__law_numbers : FnV := runV0 .frz 3 3 c__law_numbers
def e__law_added_1 : Fn' := (bin2 modD (mapA (one intOfD) (consA (bin2 addD (rdVar 5) (bin2 mulD (rdVar 3) (rdVar 6))) nilA)) (rdVar 0))
def c__law_added : FnS := (seqF (setF 4 (compF (zipI (consA (callF v__law_laid [0] [none] (consA (rdVar 1) nilA)) (consA (callF v__law_laid [0] [none] (consA (rdVar 2) nilA)) nilA))) (tupB 2 (consB (nameB 5) (consB (nameB 6) nilB))) yesF e__law_added_1 [5, 6])) (retF (callF v__law_upper_of [0, 1] [none, none] (consA (mapA (one lenD) (consA (rdVar 1) nilA)) (consA (rdVar 4) nilA)))))
def v__law_added : FnV := runV0 .frz 4 3 c__law_added
def c__law_bad_number : FnS := (retF (callF v__law_pick [0, 1] [some 0, none] (consS 0 (consA (mapA lstA (consA (rdVar 1) (consA (un1 negD (cF (.int 1))) (consA (cF (.bool true)) (consA (cF (.bool false)) (consA (cF .none) (consA (cF (.str ("0" : Str))) (consA (mapA tupA (consA (cF (.int 0)) nilA)) (consA (bin2 powD (cF (.int 10)) (cF (.int 30))) (consA (mapA lstA (consA (cF (.int 0)) nilA)) (consA (un1 negD (rdVar 1)) (consA (bin2 addD (rdVar 1) (cF (.int 1))) (consA (cF (.str ("" : Str))) (consA (cF (.dict [])) (consA (mapA tupA nilA) nilA))))))))))))))) nilA))))
def v__law_bad_number : FnV := runV0 .frz 2 0 c__law_bad_number
def c__law_upper : FnS := (retF (callF v__law_upper_of [0, 1] [none, none] (consA (rdVar 2) (consA (callF v__law_numbers [0, 1, 2] [some 0, none, none] (consS 0 (consA (rdVar 1) (consA (bin2 fdivD (bin2 mulD (rdVar 2) (bin2 addD (rdVar 2) (cF (.int 1)))) (cF (.int 2))) nilA)))) nilA))))
def v__law_upper : FnV := runV0 .frz 3 0 c__law_upper
def c__law_bad_row : FnS := (seqF (setF 3 (callF v__law_draw [0, 1] [some 0, none] (consS 0 (consA (cF (.int 6)) nilA)))) (seqF (ifF (andF (bin2 (ltD) (rdVar 3) (cF (.int 3))) (bin2 (neD) (rdVar 2) (mapA tupA nilA))) (seqF (setF 4 (callF v__law_pick [0, 1] [some 0, none] (consS 0 (consA (mapA lstA (consA (cF (.int 0)) (consA (bin2 subD (mapA (one lenD) (consA (rdVar 2) nilA)) (cF (.int 1))) (consA (callF v__law_draw [0, 1] [some 0, none] (consS 0 (consA (mapA (one lenD) (consA (rdVar 2) nilA)) nilA))) nilA)))) nilA)))) (retF (callF v__law_with [0, 1, 2] [none, none, none] (consA (rdVar 2) (consA (rdVar 4) (consA (callF v__law_bad_number [0, 1] [some 0, none] (consS 0 (consA (rdVar 1) nilA))) nilA)))))) skipF) (seqF (setF 5 (mapA lstA (consA (bin2 addD (rdVar 2) (mapA tupA (consA (cF (.int 0)) nilA))) (consA (iteF (bin2 (neD) (rdVar 2) (mapA tupA nilA)) (sliF (rdVar 2) (some (cF (.int 1))) none) (mapA tupA (consA (cF (.int 0)) nilA))) (consA (mapA (one listD) (consA (rdVar 2) nilA)) (consA (cF .none) (consA (cF (.int 0)) (consA (bin2 mulD (cF (.str ("0" : Str))) (mapA (one lenD) (consA (rdVar 2) nilA))) (consA (cF (.dict [])) (consA (mapA tupA (consA (rdVar 2) nilA)) (consA (bin2 addD (rdVar 2) (mapA tupA (consA (cF .none) nilA))) nilA))))))))))) (retF (callF v__law_pick [0, 1] [some 0, none] (consS 0 (consA (rdVar 5) nilA)))))))
def v__law_bad_row : FnV := runV0 .frz 3 3 c__law_bad_row
def c__law_are_sums_right : FnS := (seqF (setF 5 (callF v__law_pick [0, 1] [some 0, none] (consS 0 (consA (mapA lstA (consA (cF (.int 0)) (consA (cF (.int 1)) (consA (bin2 subD (rdVar 1) (cF (.int 1))) (consA (callF v__law_draw [0, 1] [some 0, none] (consS 0 (consA (rdVar 1) nilA))) nilA))))) nilA)))) (seqF (parF [6, 7] (consA (callF v__law_added [0, 1, 2, 3] [none, none, none, none] (consA (rdVar 1) (consA (rdVar 3) (consA (rdVar 4) (consA (cF (.int 1)) nilA))))) (consA (callF v__law_added [0, 1, 2, 3] [none, none, none, none] (consA (rdVar 1) (consA (rdVar 4) (consA (rdVar 3) (consA (cF (.int 1)) nilA))))) nilA))) (seqF (setF 8 (mapA lstA (consA (callF v_uppers_added [0, 1, 2] [none, none, none] (consA (rdVar 1) (consA (rdVar 3) (consA (rdVar 4) nilA)))) (consA (callF v_uppers_added [2, 1, 0] [none, none, none] (consA (rdVar 4) (consA (rdVar 3) (consA (rdVar 1) nilA)))) (consA (callF v_uppers_added [0, 1, 2] [none, none, none] (consA (rdVar 1) (consA (rdVar 4) (consA (rdVar 3) nilA)))) nilA))))) (seqF (ifF (orF (notF (callF v__law_same [0, 1] [none, none] (consA (rdVar 8) (consA (mapA lstA (consA (rdVar 6) (consA (rdVar 6) (consA (rdVar 7) nilA)))) nilA)))) (notF (callF v__law_same [0, 1] [none, none] (consA (rdVar 6) (consA (rdVar 7) nilA))))) (retF (cF (.bool false))) skipF) (seqF (setF 9 (callF v__law_upper_of [0, 1] [none, none] (consA (rdVar 2) (consA (bin2 mulD (mapA tupA (consA (cF (.int 0)) nilA)) (bin2 fdivD (bin2 mulD (rdVar 2) (bin2 addD (rdVar 2) (cF (.int 1)))) (cF (.int 2)))) nilA)))) (seqF (setF 6 (callF v__law_added [0, 1, 2, 3] [none, none, none, none] (consA (rdVar 1) (consA (rdVar 9) (consA (rdVar 3) (consA (rdVar 5) nilA)))))) (seqF (setF 8 (mapA lstA (consA (callF v_uppers_scaled [0, 1, 2] [none, none, none] (consA (rdVar 1) (consA (rdVar 5) (consA (rdVar 3) nilA)))) (consA (callF v_uppers_scaled [2, 1, 0] [none, none, none] (consA (rdVar 3) (consA (rdVar 5) (consA (rdVar 1) nilA)))) nilA)))) (seqF (ifF (orF (notF (callF v__law_same [0, 1] [none, none] (consA (rdVar 8) (consA (mapA lstA (consA (rdVar 6) (consA (rdVar 6) nilA))) nilA)))) (notF (callF v__law_same [0, 1] [none, none] (consA (callF v_uppers_scaled [0, 1, 2] [none, none, none] (consA (rdVar 1) (consA (cF (.int 0)) (consA (rdVar 4) nilA)))) (consA (rdVar 9) nilA))))) (retF (cF (.bool false))) skipF) (seqF (ifF (notF (callF v__law_same [0, 1] [none, none] (consA (callF v_uppers_added [0, 1, 2] [none, none, none] (consA (rdVar 1) (consA (rdVar 3) (consA (callF v_uppers_scaled [0, 1, 2] [none, none, none] (consA (rdVar 1) (consA (bin2 subD (rdVar 1) (cF (.int 1))) (consA (rdVar 3) nilA)))) nilA)))) (consA (rdVar 9) nilA)))) (retF (cF (.bool false))) skipF) (seqF (setF 10 (callF v__law_draw [0, 1] [some 0, none] (consS 0 (consA (rdVar 1) nilA)))) (seqF (setF 6 (callF v__law_with [0, 1, 2] [none, none, none] (consA (rdVar 9) (consA (cF (.int 0)) (consA (bin2 addD (bin2 mulD (mapA tupA (consA (cF (.int 0)) nilA)) (bin2 subD (rdVar 2) (cF (.int 1)))) (mapA tupA (consA (rdVar 10) nilA))) nilA))))) (retF (callF v__law_same [0, 1] [none, none] (consA (mapA lstA (consA (callF v_plain_upper [0, 1, 2] [none, none, none] (consA (rdVar 1) (consA (rdVar 2) (consA (rdVar 10) nilA)))) (consA (callF v_plain_upper [2, 1, 0] [none, none, none] (consA (rdVar 10) (consA (rdVar 2) (consA (rdVar 1) nilA)))) nilA))) (consA (mapA lstA (consA (rdVar 6) (consA (rdVar 6) nilA))) nilA)))))))))))))))
def v__law_are_sums_right : FnV := runV0 .frz 5 6 c__law_are_sums_right
def b__law_are_places_right_1 : FnS := (seqF (setF 10 (callF v__law_upper_of [0, 1] [none, none] (consA (rdVar 2) (consA (callF v__law_digits [0, 1, 2] [none, none, none] (consA (rdVar 1) (consA (rdVar 4) (consA (rdVar 9) nilA)))) nilA)))) (seqF (setF 6 (mapA lstA (consA (callF v_upper_at [0, 1, 2] [none, none, none] (consA (rdVar 1) (consA (rdVar 2) (consA (rdVar 9) nilA)))) (consA (callF v_upper_at [2, 1, 0] [none, none, none] (consA (rdVar 9) (consA (rdVar 2) (consA (rdVar 1) nilA)))) (consA (callF v_upper_place [0, 1] [none, none] (consA (rdVar 1) (consA (rdVar 10) nilA))) nilA))))) (ifF (notF (callF v__law_same [0, 1] [none, none] (consA (bin2S addD 6 (mapA lstA (consA (callF v_upper_place [1, 0] [none, none] (consA (rdVar 10) (consA (rdVar 1) nilA))) nilA))) (consA (mapA lstA (consA (rdVar 10) (consA (rdVar 10) (consA (rdVar 9) (consA (rdVar 9) nilA))))) nilA)))) (retF (cF (.bool false))) skipF)))
def c__law_are_places_right : FnS := (seqF (parF [4, 5] (consA (bin2 fdivD (bin2 mulD (rdVar 2) (bin2 addD (rdVar 2) (cF (.int 1)))) (cF (.int 2))) (consA (callF v__law_laid [0] [none] (consA (rdVar 3) nilA)) nilA))) (seqF (setF 6 (mapA lstA (consA (callF v_laid_upper [0] [none] (consA (rdVar 3) nilA)) (consA (callF v_laid_upper [0] [none] (consA (rdVar 3) nilA)) (consA (callF v_upper_of_laid [0, 1] [none, none] (consA (rdVar 2) (consA (rdVar 5) nilA))) (consA (callF v_upper_of_laid [1, 0] [none, none] (consA (rdVar 5) (consA (rdVar 2) nilA))) nilA)))))) (seqF (setF 7 (callF v__law_power [0, 1] [none, none] (consA (rdVar 1) (consA (rdVar 4) nilA)))) (seqF (exF (methF 6 extendG (consA (mapA lstA (consA (callF v_uppers_number [0, 1] [none, none] (consA (rdVar 1) (consA (rdVar 2) nilA))) (consA (callF v_uppers_number [1, 0] [none, none] (consA (rdVar 2) (consA (rdVar 1) nilA))) nilA))) nilA))) (seqF (ifF (notF (callF v__law_same [0, 1] [none, none] (consA (rdVar 6) (consA (mapA lstA (consA (rdVar 5) (consA (rdVar 5) (consA (rdVar 3) (consA (rdVar 3) (consA (rdVar 7) (consA (rdVar 7) nilA))))))) nilA)))) (retF (cF (.bool false))) skipF) (seqF (setF 8 (mapA lstA (consA (cF (.int 0)) (consA (bin2 subD (rdVar 7) (cF (.int 1))) (consA (cF (.int 1)) (consA (bin2 fdivD (rdVar 7) (rdVar 1)) (consA (callF v__law_place [0, 1] [none, none] (consA (rdVar 1) (consA (rdVar 5) nilA))) (consA (callF v__law_place [0, 1] [none, none] (consA (rdVar 1) (consA (callF v__law_numbers [0, 1, 2] [some 0, none, none] (consS 0 (consA (rdVar 1) (consA (rdVar 4) nilA)))) nilA))) nilA)))))))) (seqF (forF (seqI (bin2 addD (rdVar 8) (mapA lstA (consA (bin2 fdivD (rdVar 7) (cF (.int 2))) (consA (bin2 subD (bin2 subD (rdVar 7) (cF (.int 1))) (callF v__law_draw [0, 1] [some 0, none] (consS 0 (consA (mapA (two min2D) (consA (rdVar 7) (consA (cF (.int 1000)) nilA))) nilA)))) nilA))))) (nameB 9) b__law_are_places_right_1) (retF (cF (.bool true))))))))))
def v__law_are_places_right : FnV := runV0 .frz 4 7 c__law_are_places_right
def c__law_bad_upper : FnS := (seqF (setF 3 (callF v__law_draw [0, 1] [some 0, none] (consS 0 (consA (cF (.int 6)) nilA)))) (seqF (ifF (bin2 (gtD) (rdVar 3) (cF (.int 0))) (seqF (setF 4 (callF v__law_pick [0, 1] [some 0, none] (consS 0 (consA (mapA lstA (consA (cF (.int 0)) (consA (bin2 subD (mapA (one lenD) (consA (rdVar 2) nilA)) (cF (.int 1))) (consA (callF v__law_draw [0, 1] [some 0, none] (consS 0 (consA (mapA (one lenD) (consA (rdVar 2) nilA)) nilA))) nilA)))) nilA)))) (retF (callF v__law_with [0, 1, 2] [none, none, none] (consA (rdVar 2) (consA (rdVar 4) (consA (callF v__law_bad_row [0, 1, 2] [some 0, none, none] (consS 0 (consA (rdVar 1) (consA (bin2 idxD (rdVar 2) (rdVar 4)) nilA)))) nilA)))))) skipF) (seqF (setF 5 (mapA lstA (consA (bin2 addD (rdVar 2) (mapA tupA (consA (mapA tupA nilA) nilA))) (consA (sliF (rdVar 2) none (some (un1 negD (cF (.int 1))))) (consA (sliF (rdVar 2) (some (cF (.int 1))) none) (consA (mapA (one listD) (consA (rdVar 2) nilA)) (consA (cF .none) (consA (mapA tupA nilA) (consA (cF (.int 0)) (consA (cF (.str ("upper" : Str))) (consA (cF (.dict [])) (consA (callF v__law_laid [0] [none] (consA (rdVar 2) nilA)) nilA)))))))))))) (retF (callF v__law_pick [0, 1] [some 0, none] (consS 0 (consA (bin2 addD (rdVar 5) (mapA lstA (consA (un1 revD (rdVar 2)) (consA (mapA tupA (consA (rdVar 2) nilA)) (consA (mapA lstA (consA (rdVar 2) nilA)) (consA (cF (.bool true)) (consA (bin2 mulD (mapA tupA (consA (cF .none) nilA)) (mapA (one lenD) (consA (rdVar 2) nilA))) nilA))))))) nilA)))))))
def v__law_bad_upper : FnV := runV0 .frz 3 3 c__law_bad_upper
def b__law_values_1 : FnS := (exF (methF 4 appendG (consA (callF v__law_bad_upper [0, 1, 2] [some 0, none, none] (consS 0 (consA (rdVar 1) (consA (rdVar 3) nilA)))) nilA)))
def b__law_values_2 : FnS := (seqF (parF [6, 7] (consA (callF v__law_bad_upper [0, 1, 2] [some 0, none, none] (consS 0 (consA (rdVar 1) (consA (rdVar 3) nilA)))) (consA (callF v__law_draw [0, 1] [some 0, none] (consS 0 (consA (rdVar 2) nilA))) nilA))) (ifF (andF (un1 (isiD "tuple") (rdVar 6)) (bin2 (eqD) (mapA (one lenD) (consA (rdVar 6) nilA)) (rdVar 2))) (exF (methF 4 appendG (consA (callF v__law_with [0, 1, 2] [none, none, none] (consA (rdVar 6) (consA (rdVar 7) (consA (callF v__law_bad_row [0, 1, 2] [some 0, none, none] (consS 0 (consA (rdVar 1) (consA (bin2 idxD (rdVar 3) (rdVar 7)) nilA)))) nilA)))) nilA))) skipF))
def c__law_values : FnS := (seqF (setF 4 (mapA lstA (consA (rdVar 3) (consA (callF v__law_upper [0, 1, 2] [some 0, none, none] (consS 0 (consA (rdVar 1) (consA (rdVar 2) nilA)))) nilA)))) (seqF (forF (rngI (consA (cF (.int 8)) nilA)) (nameB 5) b__law_values_1) (seqF (forF (rngI (consA (cF (.int 4)) nilA)) (nameB 5) b__law_values_2) (seqF (setF 8 (bin2 idxD (rdVar 3) (un1 negD (cF (.int 1))))) (seqF (exF (methF 4 appendG (consA (callF v__law_with [0, 1, 2] [none, none, none] (consA (rdVar 3) (consA (bin2 subD (rdVar 2) (cF (.int 1))) (consA (mapA tupA (consA (callF v__law_bad_number [0, 1] [some 0, none] (consS 0 (consA (rdVar 1) nilA))) nilA)) nilA)))) nilA))) (seqF (exF (methF 4 appendG (consA (callF v__law_with [0, 1, 2] [none, none, none] (consA (rdVar 3) (consA (cF (.int 0)) (consA (bin2 addD (sliF (bin2 idxD (rdVar 3) (cF (.int 0))) none (some (un1 negD (cF (.int 1))))) (mapA tupA (consA (callF v__law_bad_number [0, 1] [some 0, none] (consS 0 (consA (rdVar 1) nilA))) nilA))) nilA)))) nilA))) (seqF (exF (methF 4 appendG (consA (callF v__law_with [0, 1, 2] [none, none, none] (consA (callF v__law_with [0, 1, 2] [none, none, none] (consA (rdVar 3) (consA (cF (.int 0)) (consA (bin2 addD (mapA tupA (consA (rdVar 1) nilA)) (sliF (bin2 idxD (rdVar 3) (cF (.int 0))) (some (cF (.int 1))) none)) nilA)))) (consA (bin2 subD (rdVar 2) (cF (.int 1))) (consA (bin2 addD (rdVar 8) (mapA tupA (consA (cF (.int 0)) nilA))) nilA)))) nilA))) (seqF (setF 9 (mapA lstA (consA (cF .none) (consA (cF (.bool true)) (consA (cF (.int 0)) (consA (cF (.str ("" : Str))) (consA (mapA tupA nilA) (consA (mapA lstA nilA) (consA (cF (.dict [])) (consA (dict1F (cF (.int 0)) (rdVar 3)) (consA (bin2 mulD (cF (.str ("0" : Str))) (rdVar 2)) (consA (bin2 mulD (mapA tupA (consA (mapA tupA nilA) nilA)) (rdVar 2)) (consA (bin2 addD (rdVar 3) (rdVar 3)) (consA (bin2 mulD (mapA tupA (consA (bin2 mulD (mapA tupA (consA (cF (.int 0)) nilA)) (rdVar 2)) nilA)) (rdVar 2)) (consA (bin2 powD (cF (.int 10)) (cF (.int 30))) nilA))))))))))))))) (retF (bin2S addD 4 (mapA lstA (consA (callF v__law_pick [0, 1] [some 0, none] (consS 0 (consA (rdVar 9) nilA))) (consA (callF v__law_pick [0, 1] [some 0, none] (consS 0 (consA (rdVar 9) nilA))) nilA)))))))))))))
def v__law_values : FnV := runV0 .frz 4 6 c__law_values
def b__law_are_values_right_1 : FnS := (seqF (parF [6, 7] (consA (callF v__law_upper_fault [0, 1, 2] [none, none, none] (consA (rdVar 1) (consA (rdVar 2) (consA (rdVar 5) nilA)))) (consA (mapA (one reprD) (consA (rdVar 5) nilA)) nilA))) (seqF (setF 8 (mapA lstA (consA (callF v_upper_error [0, 1, 2] [none, none, none] (consA (rdVar 1) (consA (rdVar 2) (consA (rdVar 5) nilA)))) (consA (callF v_upper_error [2, 1, 0] [none, none, none] (consA (rdVar 5) (consA (rdVar 2) (consA (rdVar 1) nilA)))) nilA)))) (ifF (orF (notF (callF v__law_same [0, 1] [none, none] (consA (rdVar 8) (consA (mapA lstA (consA (rdVar 6) (consA (rdVar 6) nilA))) nilA)))) (bin2 (neD) (mapA (one reprD) (consA (rdVar 5) nilA)) (rdVar 7))) (retF (cF (.bool false))) skipF)))
def c__law_are_values_right : FnS := (seqF (forF (enumI (consA (callF v__law_values [0, 1, 2, 3] [some 0, none, none, none] (consS 0 (consA (rdVar 1) (consA (rdVar 2) (consA (rdVar 3) nilA))))) nilA)) (tupB 2 (consB (nameB 4) (consB (nameB 5) nilB))) b__law_are_values_right_1) (retF (cF (.bool true))))
def v__law_are_values_right : FnV := runV0 .frz 4 5 c__law_are_values_right
def b_law_1 : FnS := (seqF (parF [3, 4] (consA (callF v__law_pick [0, 1] [some 1, none] (consS 1 (consA (mapA lstA (consA (cF (.int 2)) (consA (cF (.int 3)) (consA (cF (.int 5)) (consA (cF (.int 7)) nilA))))) nilA))) (consA (callF v__law_pick [0, 1] [some 1, none] (consS 1 (consA (mapA lstA (consA (cF (.int 1)) (consA (cF (.int 2)) (consA (cF (.int 2)) (consA (cF (.int 3)) (consA (cF (.int 3)) (consA (cF (.int 4)) (consA (cF (.int 5)) (consA (cF (.int 6)) (consA (cF (.int 7)) (consA (cF (.int 8)) (consA (cF (.int 8)) nilA)))))))))))) nilA))) nilA))) (seqF (parF [5, 6] (consA (callF v__law_upper [0, 1, 2] [some 1, none, none] (consS 1 (consA (rdVar 3) (consA (rdVar 4) nilA)))) (consA (callF v__law_upper [0, 1, 2] [some 1, none, none] (consS 1 (consA (rdVar 3) (consA (rdVar 4) nilA)))) nilA))) (seqF (setF 7 (mapA (one reprD) (consA (mapA lstA (consA (rdVar 5) (consA (rdVar 6) nilA))) nilA))) (seqF (ifF (orF (notF (callF v__law_are_items_right [0, 1, 2] [some 1, none, none] (consS 1 (consA (rdVar 4) (consA (rdVar 5) nilA))))) (notF (callF v__law_are_sums_right [0, 1, 2, 3, 4] [some 1, none, none, none, none] (consS 1 (consA (rdVar 3) (consA (rdVar 4) (consA (rdVar 5) (consA (rdVar 6) nilA)))))))) (retF (cF (.bool false))) skipF) (seqF (ifF (orF (notF (callF v__law_are_places_right [0, 1, 2, 3] [some 1, none, none, none] (consS 1 (consA (rdVar 3) (consA (rdVar 4) (consA (rdVar 5) nilA)))))) (notF (callF v__law_are_places_right [0, 1, 2, 3] [some 1, none, none, none] (consS 1 (consA (rdVar 3) (consA (rdVar 4) (consA (rdVar 6) nilA))))))) (retF (cF (.bool false))) skipF) (seqF (ifF (orF (notF (callF v__law_are_values_right [0, 1, 2, 3] [some 1, none, none, none] (consS 1 (consA (rdVar 3) (consA (rdVar 4) (consA (rdVar 6) nilA)))))) (notF (callF v__law_are_items_right [0, 1, 2] [some 1, none, none] (consS 1 (consA (rdVar 4) (consA (rdVar 6) nilA)))))) (retF (cF (.bool false))) skipF) (ifF (bin2 (neD) (mapA (one reprD) (consA (mapA lstA (consA (rdVar 5) (consA (rdVar 6) nilA))) nilA)) (rdVar 7)) (retF (cF (.bool false))) skipF)))))))
def c_law : FnS := (seqF (setF 1 (callF v__law_bag [0] [some 0] (consS 0 nilA))) (seqF (forF (rngI (consA (cF (.int 3)) nilA)) (nameB 2) b_law_1) (retF (cF (.bool true)))))
def v_law : FnV := runV0 .frz 1 7 c_law
end
end K18

set_option maxRecDepth 100000
set_option maxHeartbeats 4000000
namespace K18
open PySem PySem.Spec PyProof.Rows L2 Z
noncomputable section
def top (i : Nat) : Stmt := PySem.Challenge.pw_eachsaysonce_k18_whole_uppers.main.body.getD i (.Pass ⟨0, 0, 0, 0⟩)
abbrev tapeP : TapeP := bagP
abbrev N_is_integer : List Str := [("value" : Str)]
abbrev s_is_integer : Stmt := top 1
theorem sc_is_integer : FnScope N_is_integer [("value" : Str)] (defScope s_is_integer) := ⟨rfl, rfl, rfl, by decide +kernel, rfl, by decide +kernel, by decide +kernel⟩
theorem h_is_integer {Pr : Program} {w : PySem.World} {P : Par2} {mg : Str → Option Value} {base : Heap} {f : Addr} {fd : FuncData} (hP : P.tp = tapeP)
    (hs : ∃ o, base.get? sysModules = some o)
    (b_bool : mg ("bool" : Str) = none)
    (b_int : mg ("int" : Str) = none)
    (b_isinstance : mg ("isinstance" : Str) = none)
    (F : FunD P.K ("is_integer" : Str) ("is_integer" : Str) (defArgs s_is_integer) (defBody s_is_integer) (defScope s_is_integer) [] [] f fd)
    (m : mg ("is_integer" : Str) = some (.ref f)) :
    HasD Pr w P mg base 1 ("is_integer" : Str) [("value" : Str)] (spT P [.frz] .frz v_is_integer) (fun fd => KB fd [("value" : Str)] 1 [] [0] ∧ True) := by
  refine ⟨f, fd, def0 (k := 0) (ms := [.frz]) (n := 0) (mr := .frz) (c := c_is_integer) (Mn := [.dead]) (fun _ => []) F sc_is_integer hs rfl rfl hp0 (hio0 rfl) rfl (fun cdv A outer s H E vs C => ?_), m, F.kp, kb_of F fun _ _ _ _ _ _ us ws hu hw => match us, ws, hu, hw with | [_], [], _, _ => rfl, trivial⟩
  have nd := sc_is_integer.nd
  exact (ss_last (st_ret (TO.and (TO.isi C rfl b_isinstance (pe_bty rfl b_int bt_int) (TO.var (pv 0) rfl) rfl) (TO.one (TO.not (TO.isi C rfl b_isinstance (pe_bty rfl b_bool bt_bool) (TO.var (pv 0) rfl) rfl))))))
abbrev N_row_place : List Str := [("p" : Str), ("row" : Str), ("found" : Str), ("number" : Str)]
abbrev s_row_place : Stmt := top 4
theorem sc_row_place : FnScope N_row_place [("p" : Str), ("row" : Str)] (defScope s_row_place) := ⟨rfl, rfl, rfl, by decide +kernel, rfl, by decide +kernel, by decide +kernel⟩
theorem h_row_place {Pr : Program} {w : PySem.World} {P : Par2} {mg : Str → Option Value} {base : Heap} {f : Addr} {fd : FuncData} (hP : P.tp = tapeP)
    (hs : ∃ o, base.get? sysModules = some o)
    (F : FunD P.K ("row_place" : Str) ("row_place" : Str) (defArgs s_row_place) (defBody s_row_place) (defScope s_row_place) [] [] f fd)
    (m : mg ("row_place" : Str) = some (.ref f)) :
    HasD Pr w P mg base 1 ("row_place" : Str) [("p" : Str), ("row" : Str)] (spT P [.frz, .frz] .frz v_row_place) (fun fd => KB fd [("p" : Str), ("row" : Str)] 2 [] [0, 1] ∧ True) := by
  refine ⟨f, fd, def0 (k := 0) (ms := [.frz, .frz]) (n := 2) (mr := .frz) (c := c_row_place) (Mn := [.dead, .dead, .dead, .dead]) (fun _ => []) F sc_row_place hs rfl rfl hp0 (hio0 rfl) rfl (fun cdv A outer s H E vs C => ?_), m, F.kp, kb_of F fun _ _ _ _ _ _ us ws hu hw => match us, ws, hu, hw with | [_, _], [], _, _ => rfl, trivial⟩
  have nd := sc_row_place.nd
  exact (ss_cons (M1 := [.frz, .frz, .frz, .dead]) (st_set (i := 2) (TO.const pe_int fun _ _ => .int _) nd)
        (ss_cons (M1 := [.frz, .frz, .frz, .dead]) (st_for (Ml := [.frz, .frz, .frz, .dead]) (Mn := [.frz, .frz, .frz, .dead]) (f := b_row_place_1) C never (is_seq C (TO.var (pv 1) rfl)) (tg_name (i := 3) nd) (ss_weak (M1 := [.frz, .frz, .frz, .frz]) (ss_last (st_set (i := 2) (TO.bin (g := addD) (addV C.hK) (TO.bin (g := mulD) (mulV C.hK) (TO.var (pv 0) rfl) (TO.var (pv 2) rfl) (fun _ z => nomatch z) rfl rfl) (TO.var (pv 3) rfl) (fun _ z => nomatch z) rfl rfl) nd))))
        (ss_last (st_ret (TO.var (pv 2) rfl)))))
abbrev N_row_at : List Str := [("p" : Str), ("n" : Str), ("place" : Str), ("found" : Str), ("step" : Str)]
abbrev s_row_at : Stmt := top 5
theorem sc_row_at : FnScope N_row_at [("p" : Str), ("n" : Str), ("place" : Str)] (defScope s_row_at) := ⟨rfl, rfl, rfl, by decide +kernel, rfl, by decide +kernel, by decide +kernel⟩
theorem h_row_at {Pr : Program} {w : PySem.World} {P : Par2} {mg : Str → Option Value} {base : Heap} {f : Addr} {fd : FuncData} (hP : P.tp = tapeP)
    (hs : ∃ o, base.get? sysModules = some o)
    (b_range : mg ("range" : Str) = none)
    (b_tuple : mg ("tuple" : Str) = none)
    (F : FunD P.K ("row_at" : Str) ("row_at" : Str) (defArgs s_row_at) (defBody s_row_at) (defScope s_row_at) [] [] f fd)
    (m : mg ("row_at" : Str) = some (.ref f)) :
    HasD Pr w P mg base 1 ("row_at" : Str) [("p" : Str), ("n" : Str), ("place" : Str)] (spT P [.frz, .frz, .frz] .frz v_row_at) (fun fd => KB fd [("p" : Str), ("n" : Str), ("place" : Str)] 3 [] [0, 1, 2] ∧ True) := by
  refine ⟨f, fd, def0 (k := 0) (ms := [.frz, .frz, .frz]) (n := 2) (mr := .frz) (c := c_row_at) (Mn := [.dead, .dead, .dead, .dead, .dead]) (fun _ => []) F sc_row_at hs rfl rfl hp0 (hio0 rfl) rfl (fun cdv A outer s H E vs C => ?_), m, F.kp, kb_of F fun _ _ _ _ _ _ us ws hu hw => match us, ws, hu, hw with | [_, _, _], [], _, _ => rfl, trivial⟩
  have nd := sc_row_at.nd
  exact (ss_cons (M1 := [.frz, .frz, .frz, (.lst .frz), .dead]) (st_set (i := 3) (TO.list TAs.nil (by simp)) nd)
        (ss_cons (M1 := [.frz, .frz, .frz, (.lst .frz), .dead]) (st_for (Ml := [.frz, .frz, .frz, (.lst .frz), .dead]) (Mn := [.frz, .frz, .frz, (.lst .frz), .dead]) (f := b_row_at_1) C never (rng1_post rfl b_range (TAs.cons (TO.var (pv 1) rfl) TAs.nil (fun _ z => nomatch z) rfl)) (tg_name (i := 4) nd) (ss_weak (M1 := [.frz, .frz, .frz, (.lst .frz), .frz]) (ss_cons (M1 := [.frz, .frz, .frz, (.lst .frz), .frz]) (st_expr (TO.meth (i := 3) (g := appendG) C lm_append PySem.F.slot_list_append PySem.F.type_list_append (pv 3) (TAs.cons (TO.bin (g := modD) (modV) (TO.var (pv 2) rfl) (TO.var (pv 0) rfl) (fun _ z => nomatch z) rfl rfl) TAs.nil (fun _ z => nomatch z) rfl) (by simp)))
        (ss_last (st_set (i := 2) (TO.bin (g := fdivD) (fdivV) (TO.var (pv 2) rfl) (TO.var (pv 0) rfl) (fun _ z => nomatch z) rfl rfl) nd)))))
        (ss_last (st_ret (TO.callT (g := one tupleD) (tupleV C.hK) rfl b_tuple bt_tuple (TAs.cons (TO.rev C (TO.slot (m := (.lst .frz)) (pv 3) rfl (by decide)) rfl) TAs.nil (fun _ z => nomatch z) rfl) rfl (by decide) (by decide) rfl rfl)))))
abbrev N_upper_item : List Str := [("upper" : Str), ("i" : Str), ("j" : Str)]
abbrev s_upper_item : Stmt := top 8
theorem sc_upper_item : FnScope N_upper_item [("upper" : Str), ("i" : Str), ("j" : Str)] (defScope s_upper_item) := ⟨rfl, rfl, rfl, by decide +kernel, rfl, by decide +kernel, by decide +kernel⟩
theorem h_upper_item {Pr : Program} {w : PySem.World} {P : Par2} {mg : Str → Option Value} {base : Heap} {f : Addr} {fd : FuncData} (hP : P.tp = tapeP)
    (hs : ∃ o, base.get? sysModules = some o)
    (F : FunD P.K ("upper_item" : Str) ("upper_item" : Str) (defArgs s_upper_item) (defBody s_upper_item) (defScope s_upper_item) [] [] f fd)
    (m : mg ("upper_item" : Str) = some (.ref f)) :
    HasD Pr w P mg base 1 ("upper_item" : Str) [("upper" : Str), ("i" : Str), ("j" : Str)] (spT P [.frz, .frz, .frz] .frz v_upper_item) (fun fd => KB fd [("upper" : Str), ("i" : Str), ("j" : Str)] 3 [] [0, 1, 2] ∧ KB fd [("upper" : Str), ("i" : Str), ("j" : Str)] 0 [("j" : Str), ("i" : Str), ("upper" : Str)] [2, 1, 0] ∧ True) := by
  refine ⟨f, fd, def0 (k := 0) (ms := [.frz, .frz, .frz]) (n := 0) (mr := .frz) (c := c_upper_item) (Mn := [.dead, .dead, .dead]) (fun _ => []) F sc_upper_item hs rfl rfl hp0 (hio0 rfl) rfl (fun cdv A outer s H E vs C => ?_), m, F.kp, kb_of F fun _ _ _ _ _ _ us ws hu hw => match us, ws, hu, hw with | [_, _, _], [], _, _ => rfl, kb_of F fun _ _ _ _ _ _ us ws hu hw => match us, ws, hu, hw with | [], [_, _, _], _, _ => rfl, trivial⟩
  have nd := sc_upper_item.nd
  exact (ss_last (st_ret (TO.idx C.hK (TO.idx C.hK (TO.var (pv 0) rfl) (TO.var (pv 1) rfl) (fun _ z => nomatch z) rfl rfl (fun _ _ => rfl)) (TO.bin (g := subD) (subV) (TO.var (pv 2) rfl) (TO.var (pv 1) rfl) (fun _ z => nomatch z) rfl rfl) (fun _ z => nomatch z) rfl rfl (fun _ _ => rfl))))
abbrev N_uppers_added : List Str := [("p" : Str), ("one" : Str), ("other" : Str), ("found" : Str), ("first" : Str), ("second" : Str), ("a" : Str), ("b" : Str)]
abbrev s_uppers_added : Stmt := top 9
theorem sc_uppers_added : FnScope N_uppers_added [("p" : Str), ("one" : Str), ("other" : Str)] (defScope s_uppers_added) := ⟨rfl, rfl, rfl, by decide +kernel, rfl, by decide +kernel, by decide +kernel⟩
theorem h_uppers_added {Pr : Program} {w : PySem.World} {P : Par2} {mg : Str → Option Value} {base : Heap} {f : Addr} {fd : FuncData} (hP : P.tp = tapeP)
    (hs : ∃ o, base.get? sysModules = some o)
    (b_tuple : mg ("tuple" : Str) = none)
    (b_zip : mg ("zip" : Str) = none)
    (F : FunD P.K ("uppers_added" : Str) ("uppers_added" : Str) (defArgs s_uppers_added) (defBody s_uppers_added) (defScope s_uppers_added) [] [] f fd)
    (m : mg ("uppers_added" : Str) = some (.ref f)) :
    HasD Pr w P mg base 1 ("uppers_added" : Str) [("p" : Str), ("one" : Str), ("other" : Str)] (spT P [.frz, .frz, .frz] .frz v_uppers_added) (fun fd => KB fd [("p" : Str), ("one" : Str), ("other" : Str)] 3 [] [0, 1, 2] ∧ KB fd [("p" : Str), ("one" : Str), ("other" : Str)] 0 [("other" : Str), ("one" : Str), ("p" : Str)] [2, 1, 0] ∧ True) := by
  refine ⟨f, fd, def0 (k := 0) (ms := [.frz, .frz, .frz]) (n := 5) (mr := .frz) (c := c_uppers_added) (Mn := [.dead, .dead, .dead, .dead, .dead, .dead, .dead, .dead]) (fun _ => []) F sc_uppers_added hs rfl rfl hp0 (hio0 rfl) rfl (fun cdv A outer s H E vs C => ?_), m, F.kp, kb_of F fun _ _ _ _ _ _ us ws hu hw => match us, ws, hu, hw with | [_, _, _], [], _, _ => rfl, kb_of F fun _ _ _ _ _ _ us ws hu hw => match us, ws, hu, hw with | [], [_, _, _], _, _ => rfl, trivial⟩
  have nd := sc_uppers_added.nd
  exact (ss_cons (M1 := [.frz, .frz, .frz, (.lst .frz), .dead, .dead, .dead, .dead]) (st_set (i := 3) (TO.list TAs.nil (by simp)) nd)
        (ss_cons (M1 := [.frz, .frz, .frz, (.lst .frz), .dead, .dead, .dead, .dead]) (st_for (Ml := [.frz, .frz, .frz, (.lst .frz), .dead, .dead, .dead, .dead]) (Mn := [.frz, .frz, .frz, (.lst .frz), .dead, .dead, .dead, .dead]) (f := b_uppers_added_2) C never (is_zip C rfl b_zip (TAs.cons (TO.var (pv 1) rfl) (TAs.cons (TO.var (pv 2) rfl) TAs.nil (fun _ z => nomatch z) rfl) (fun _ z => nomatch z) rfl)) (tg_ch (tg_tupP C (tgs_cons (tg_name (i := 4) nd) (tgs_cons (tg_name (i := 5) nd) tgs_nil)))) (ss_weak (M1 := [.frz, .frz, .frz, (.lst .frz), .frz, .frz, .dead, .dead]) (ss_last (st_expr (TO.meth (i := 3) (g := appendG) C lm_append PySem.F.slot_list_append PySem.F.type_list_append (pv 3) (TAs.cons (TO.callT (g := one tupleD) (tupleV C.hK) rfl b_tuple bt_tuple (TAs.cons (TO.comp (own := [(("a" : Str), 6), (("b" : Str), 7)]) (t := yesF) (fe := e_uppers_added_1) C nd (is_zip C rfl b_zip (TAs.cons (TO.var (pv 4) rfl) (TAs.cons (TO.var (pv 5) rfl) TAs.nil (fun _ z => nomatch z) rfl) (fun _ z => nomatch z) rfl)) (by kernel_rfl) (fun _ _ _ _ _ C => (tg_ch (tg_tupP C (tgs_cons (tg_name (i := 6) nd) (tgs_cons (tg_name (i := 7) nd) tgs_nil))))) (fun _ _ _ _ _ C => ts_nil) (fun _ _ _ _ _ C => (TO.bin (g := modD) (modV) (TO.bin (g := addD) (addV C.hK) (TO.var (pv 6) rfl) (TO.var (pv 7) rfl) (fun _ z => nomatch z) rfl rfl) (TO.var (pv 0) rfl) (fun _ z => nomatch z) rfl rfl))) TAs.nil (fun _ z => nomatch z) rfl) rfl (by decide) (by decide) rfl rfl) TAs.nil (fun _ z => nomatch z) rfl) (by simp))))))
        (ss_last (st_ret (TO.callT (g := one tupleD) (tupleV C.hK) rfl b_tuple bt_tuple (TAs.consS (m := (.lst .frz)) (pv 3) TAs.nil) rfl (by decide) (by decide) rfl rfl)))))
abbrev N_uppers_scaled : List Str := [("p" : Str), ("number" : Str), ("upper" : Str), ("row" : Str), ("item" : Str)]
abbrev s_uppers_scaled : Stmt := top 10
theorem sc_uppers_scaled : FnScope N_uppers_scaled [("p" : Str), ("number" : Str), ("upper" : Str)] (defScope s_uppers_scaled) := ⟨rfl, rfl, rfl, by decide +kernel, rfl, by decide +kernel, by decide +kernel⟩
theorem h_uppers_scaled {Pr : Program} {w : PySem.World} {P : Par2} {mg : Str → Option Value} {base : Heap} {f : Addr} {fd : FuncData} (hP : P.tp = tapeP)
    (hs : ∃ o, base.get? sysModules = some o)
    (b_tuple : mg ("tuple" : Str) = none)
    (F : FunD P.K ("uppers_scaled" : Str) ("uppers_scaled" : Str) (defArgs s_uppers_scaled) (defBody s_uppers_scaled) (defScope s_uppers_scaled) [] [] f fd)
    (m : mg ("uppers_scaled" : Str) = some (.ref f)) :
    HasD Pr w P mg base 1 ("uppers_scaled" : Str) [("p" : Str), ("number" : Str), ("upper" : Str)] (spT P [.frz, .frz, .frz] .frz v_uppers_scaled) (fun fd => KB fd [("p" : Str), ("number" : Str), ("upper" : Str)] 3 [] [0, 1, 2] ∧ KB fd [("p" : Str), ("number" : Str), ("upper" : Str)] 0 [("upper" : Str), ("number" : Str), ("p" : Str)] [2, 1, 0] ∧ True) := by
  refine ⟨f, fd, def0 (k := 0) (ms := [.frz, .frz, .frz]) (n := 2) (mr := .frz) (c := c_uppers_scaled) (Mn := [.dead, .dead, .dead, .dead, .dead]) (fun _ => []) F sc_uppers_scaled hs rfl rfl hp0 (hio0 rfl) rfl (fun cdv A outer s H E vs C => ?_), m, F.kp, kb_of F fun _ _ _ _ _ _ us ws hu hw => match us, ws, hu, hw with | [_, _, _], [], _, _ => rfl, kb_of F fun _ _ _ _ _ _ us ws hu hw => match us, ws, hu, hw with | [], [_, _, _], _, _ => rfl, trivial⟩
  have nd := sc_uppers_scaled.nd
  exact (ss_last (st_ret (TO.callT (g := one tupleD) (tupleV C.hK) rfl b_tuple bt_tuple (TAs.cons (TO.comp (own := [(("row" : Str), 3)]) (t := yesF) (fe := e_uppers_scaled_2) C nd (is_seq C (TO.var (pv 2) rfl)) (by kernel_rfl) (fun _ _ _ _ _ C => (tg_name (i := 3) nd)) (fun _ _ _ _ _ C => ts_nil) (fun _ _ _ _ _ C => (TO.callT (g := one tupleD) (tupleV C.hK) rfl b_tuple bt_tuple (TAs.cons (TO.comp (own := [(("item" : Str), 4)]) (t := yesF) (fe := e_uppers_scaled_1) C nd (is_seq C (TO.var (pv 3) rfl)) (by kernel_rfl) (fun _ _ _ _ _ C => (tg_name (i := 4) nd)) (fun _ _ _ _ _ C => ts_nil) (fun _ _ _ _ _ C => (TO.bin (g := modD) (modV) (TO.bin (g := mulD) (mulV C.hK) (TO.var (pv 1) rfl) (TO.var (pv 4) rfl) (fun _ z => nomatch z) rfl rfl) (TO.var (pv 0) rfl) (fun _ z => nomatch z) rfl rfl))) TAs.nil (fun _ z => nomatch z) rfl) rfl (by decide) (by decide) rfl rfl))) TAs.nil (fun _ z => nomatch z) rfl) rfl (by decide) (by decide) rfl rfl)))
abbrev N_plain_upper : List Str := [("p" : Str), ("l" : Str), ("v" : Str), ("rows" : Str), ("i" : Str), ("row" : Str)]
abbrev s_plain_upper : Stmt := top 11
theorem sc_plain_upper : FnScope N_plain_upper [("p" : Str), ("l" : Str), ("v" : Str)] (defScope s_plain_upper) := ⟨rfl, rfl, rfl, by decide +kernel, rfl, by decide +kernel, by decide +kernel⟩
theorem h_plain_upper {Pr : Program} {w : PySem.World} {P : Par2} {mg : Str → Option Value} {base : Heap} {f : Addr} {fd : FuncData} (hP : P.tp = tapeP)
    (hs : ∃ o, base.get? sysModules = some o)
    (b_range : mg ("range" : Str) = none)
    (b_tuple : mg ("tuple" : Str) = none)
    (F : FunD P.K ("plain_upper" : Str) ("plain_upper" : Str) (defArgs s_plain_upper) (defBody s_plain_upper) (defScope s_plain_upper) [] [] f fd)
    (m : mg ("plain_upper" : Str) = some (.ref f)) :
    HasD Pr w P mg base 1 ("plain_upper" : Str) [("p" : Str), ("l" : Str), ("v" : Str)] (spT P [.frz, .frz, .frz] .frz v_plain_upper) (fun fd => KB fd [("p" : Str), ("l" : Str), ("v" : Str)] 3 [] [0, 1, 2] ∧ KB fd [("p" : Str), ("l" : Str), ("v" : Str)] 0 [("v" : Str), ("l" : Str), ("p" : Str)] [2, 1, 0] ∧ True) := by
  refine ⟨f, fd, def0 (k := 0) (ms := [.frz, .frz, .frz]) (n := 3) (mr := .frz) (c := c_plain_upper) (Mn := [.dead, .dead, .dead, .dead, .dead, .dead]) (fun _ => []) F sc_plain_upper hs rfl rfl hp0 (hio0 rfl) rfl (fun cdv A outer s H E vs C => ?_), m, F.kp, kb_of F fun _ _ _ _ _ _ us ws hu hw => match us, ws, hu, hw with | [_, _, _], [], _, _ => rfl, kb_of F fun _ _ _ _ _ _ us ws hu hw => match us, ws, hu, hw with | [], [_, _, _], _, _ => rfl, trivial⟩
  have nd := sc_plain_upper.nd
  exact (ss_cons (M1 := [.frz, .frz, .frz, (.lst (.lst .frz)), .dead, .dead]) (st_setC (i := 3) (own := [(("i" : Str), 4)]) (t := yesF) (fe := e_plain_upper_1) C nd (rng1_post rfl b_range (TAs.cons (TO.var (pv 1) rfl) TAs.nil (fun _ z => nomatch z) rfl)) (by kernel_rfl) (fun _ _ _ _ _ C => (tg_name (i := 4) nd)) (fun _ _ _ _ _ C => ts_nil) (fun _ _ _ _ _ C => (TO.bin (g := mulL) mulVL (TO.list (TAs.cons (TO.const pe_int fun _ _ => .int _) TAs.nil (fun _ z => nomatch z) rfl) (by simp)) (TO.bin (g := subD) (subV) (TO.var (pv 1) rfl) (TO.var (pv 4) rfl) (fun _ z => nomatch z) rfl rfl) (fun _ z => nomatch z) rfl rfl)))
        (ss_cons (M1 := [.frz, .frz, .frz, (.lst (.lst .frz)), .dead, .dead]) (st_setIt2 (i := 3) (l := 1) (c := 0) (n := 1) (TO.var (pv 2) rfl) (pv 3) pe_int (fun _ _ => rfl) (pv 1) pe_int)
        (ss_last (st_frz (i := 3) (m := (.lst (.lst .frz))) (st_ret (TO.callT (g := one tupleD) (tupleV C.hK) rfl b_tuple bt_tuple (TAs.cons (TO.comp (own := [(("row" : Str), 5)]) (t := yesF) (fe := e_plain_upper_2) C nd (is_seq C (TO.var (pv 3) rfl)) (by kernel_rfl) (fun _ _ _ _ _ C => (tg_name (i := 5) nd)) (fun _ _ _ _ _ C => ts_nil) (fun _ _ _ _ _ C => (TO.callT (g := one tupleD) (tupleV C.hK) rfl b_tuple bt_tuple (TAs.cons (TO.var (pv 5) rfl) TAs.nil (fun _ z => nomatch z) rfl) rfl (by decide) (by decide) rfl rfl))) TAs.nil (fun _ z => nomatch z) rfl) rfl (by decide) (by decide) rfl rfl))))))
abbrev N_laid_upper : List Str := [("upper" : Str), ("found" : Str), ("row" : Str)]
abbrev s_laid_upper : Stmt := top 12
theorem sc_laid_upper : FnScope N_laid_upper [("upper" : Str)] (defScope s_laid_upper) := ⟨rfl, rfl, rfl, by decide +kernel, rfl, by decide +kernel, by decide +kernel⟩
theorem h_laid_upper {Pr : Program} {w : PySem.World} {P : Par2} {mg : Str → Option Value} {base : Heap} {f : Addr} {fd : FuncData} (hP : P.tp = tapeP)
    (hs : ∃ o, base.get? sysModules = some o)
    (b_tuple : mg ("tuple" : Str) = none)
    (F : FunD P.K ("laid_upper" : Str) ("laid_upper" : Str) (defArgs s_laid_upper) (defBody s_laid_upper) (defScope s_laid_upper) [] [] f fd)
    (m : mg ("laid_upper" : Str) = some (.ref f)) :
    HasD Pr w P mg base 1 ("laid_upper" : Str) [("upper" : Str)] (spT P [.frz] .frz v_laid_upper) (fun fd => KB fd [("upper" : Str)] 1 [] [0] ∧ KB fd [("upper" : Str)] 0 [("upper" : Str)] [0] ∧ True) := by
  refine ⟨f, fd, def0 (k := 0) (ms := [.frz]) (n := 2) (mr := .frz) (c := c_laid_upper) (Mn := [.dead, .dead, .dead]) (fun _ => []) F sc_laid_upper hs rfl rfl hp0 (hio0 rfl) rfl (fun cdv A outer s H E vs C => ?_), m, F.kp, kb_of F fun _ _ _ _ _ _ us ws hu hw => match us, ws, hu, hw with | [_], [], _, _ => rfl, kb_of F fun _ _ _ _ _ _ us ws hu hw => match us, ws, hu, hw with | [], [_], _, _ => rfl, trivial⟩
  have nd := sc_laid_upper.nd
  exact (ss_cons (M1 := [.frz, (.lst .frz), .dead]) (st_set (i := 1) (TO.list TAs.nil (by simp)) nd)
        (ss_cons (M1 := [.frz, (.lst .frz), .dead]) (st_for (Ml := [.frz, (.lst .frz), .dead]) (Mn := [.frz, (.lst .frz), .dead]) (f := b_laid_upper_1) C never (is_seq C (TO.var (pv 0) rfl)) (tg_name (i := 2) nd) (ss_weak (M1 := [.frz, (.lst .frz), .frz]) (ss_last (st_expr (TO.meth (i := 1) (g := extendX) C (lm_extendX C.hK) PySem.F.slot_list_extend PySem.F.type_list_extend (pv 1) (TAs.cons (TO.var (pv 2) rfl) TAs.nil (fun _ z => nomatch z) rfl) (by simp))))))
        (ss_last (st_ret (TO.callT (g := one tupleD) (tupleV C.hK) rfl b_tuple bt_tuple (TAs.consS (m := (.lst .frz)) (pv 1) TAs.nil) rfl (by decide) (by decide) rfl rfl)))))
abbrev N_upper_of_laid : List Str := [("l" : Str), ("row" : Str), ("found" : Str), ("at" : Str), ("i" : Str)]
abbrev s_upper_of_laid : Stmt := top 13
theorem sc_upper_of_laid : FnScope N_upper_of_laid [("l" : Str), ("row" : Str)] (defScope s_upper_of_laid) := ⟨rfl, rfl, rfl, by decide +kernel, rfl, by decide +kernel, by decide +kernel⟩
theorem h_upper_of_laid {Pr : Program} {w : PySem.World} {P : Par2} {mg : Str → Option Value} {base : Heap} {f : Addr} {fd : FuncData} (hP : P.tp = tapeP)
    (hs : ∃ o, base.get? sysModules = some o)
    (b_range : mg ("range" : Str) = none)
    (b_tuple : mg ("tuple" : Str) = none)
    (F : FunD P.K ("upper_of_laid" : Str) ("upper_of_laid" : Str) (defArgs s_upper_of_laid) (defBody s_upper_of_laid) (defScope s_upper_of_laid) [] [] f fd)
    (m : mg ("upper_of_laid" : Str) = some (.ref f)) :
    HasD Pr w P mg base 1 ("upper_of_laid" : Str) [("l" : Str), ("row" : Str)] (spT P [.frz, .frz] .frz v_upper_of_laid) (fun fd => KB fd [("l" : Str), ("row" : Str)] 2 [] [0, 1] ∧ KB fd [("l" : Str), ("row" : Str)] 0 [("row" : Str), ("l" : Str)] [1, 0] ∧ True) := by
  refine ⟨f, fd, def0 (k := 0) (ms := [.frz, .frz]) (n := 3) (mr := .frz) (c := c_upper_of_laid) (Mn := [.dead, .dead, .dead, .dead, .dead]) (fun _ => []) F sc_upper_of_laid hs rfl rfl hp0 (hio0 rfl) rfl (fun cdv A outer s H E vs C => ?_), m, F.kp, kb_of F fun _ _ _ _ _ _ us ws hu hw => match us, ws, hu, hw with | [_, _], [], _, _ => rfl, kb_of F fun _ _ _ _ _ _ us ws hu hw => match us, ws, hu, hw with | [], [_, _], _, _ => rfl, trivial⟩
  have nd := sc_upper_of_laid.nd
  exact (ss_cons (M1 := [.frz, .frz, (.lst .frz), .frz, .dead]) (st_par2 (i := 2) (j := 3) C nd (TAs.cons (TO.list TAs.nil (by simp)) (TAs.cons (TO.const pe_int fun _ _ => .int _) TAs.nil (fun _ z => nomatch z) rfl) (fun _ z => nomatch z) rfl))
        (ss_cons (M1 := [.frz, .frz, (.lst .frz), .frz, .dead]) (st_for (Ml := [.frz, .frz, (.lst .frz), .frz, .dead]) (Mn := [.frz, .frz, (.lst .frz), .frz, .dead]) (f := b_upper_of_laid_1) C never (rng1_post rfl b_range (TAs.cons (TO.var (pv 0) rfl) TAs.nil (fun _ z => nomatch z) rfl)) (tg_name (i := 4) nd) (ss_weak (M1 := [.frz, .frz, (.lst .frz), .frz, .frz]) (ss_cons (M1 := [.frz, .frz, (.lst .frz), .frz, .frz]) (st_expr (TO.meth (i := 2) (g := appendG) C lm_append PySem.F.slot_list_append PySem.F.type_list_append (pv 2) (TAs.cons (TO.callT (g := one tupleD) (tupleV C.hK) rfl b_tuple bt_tuple (TAs.cons (TO.sli C.hK (TO.var (pv 1) rfl) (tpart_some (TO.var (pv 3) rfl)) (tpart_some (TO.bin (g := subD) (subV) (TO.bin (g := addD) (addV C.hK) (TO.var (pv 3) rfl) (TO.var (pv 0) rfl) (fun _ z => nomatch z) rfl rfl) (TO.var (pv 4) rfl) (fun _ z => nomatch z) rfl rfl)) (fun _ z => nomatch z) rfl) TAs.nil (fun _ z => nomatch z) rfl) rfl (by decide) (by decide) rfl rfl) TAs.nil (fun _ z => nomatch z) rfl) (by simp)))
        (ss_last (st_set (i := 3) (TO.bin (g := subD) (subV) (TO.bin (g := addD) (addV C.hK) (TO.var (pv 3) rfl) (TO.var (pv 0) rfl) (fun _ z => nomatch z) rfl rfl) (TO.var (pv 4) rfl) (fun _ z => nomatch z) rfl rfl) nd)))))
        (ss_last (st_ret (TO.callT (g := one tupleD) (tupleV C.hK) rfl b_tuple bt_tuple (TAs.consS (m := (.lst .frz)) (pv 2) TAs.nil) rfl (by decide) (by decide) rfl rfl)))))
abbrev N_items_number : List Str := [("l" : Str)]
abbrev s_items_number : Stmt := top 14
theorem sc_items_number : FnScope N_items_number [("l" : Str)] (defScope s_items_number) := ⟨rfl, rfl, rfl, by decide +kernel, rfl, by decide +kernel, by decide +kernel⟩
theorem h_items_number {Pr : Program} {w : PySem.World} {P : Par2} {mg : Str → Option Value} {base : Heap} {f : Addr} {fd : FuncData} (hP : P.tp = tapeP)
    (hs : ∃ o, base.get? sysModules = some o)
    (F : FunD P.K ("items_number" : Str) ("items_number" : Str) (defArgs s_items_number) (defBody s_items_number) (defScope s_items_number) [] [] f fd)
    (m : mg ("items_number" : Str) = some (.ref f)) :
    HasD Pr w P mg base 1 ("items_number" : Str) [("l" : Str)] (spT P [.frz] .frz v_items_number) (fun fd => KB fd [("l" : Str)] 1 [] [0] ∧ True) := by
  refine ⟨f, fd, def0 (k := 0) (ms := [.frz]) (n := 0) (mr := .frz) (c := c_items_number) (Mn := [.dead]) (fun _ => []) F sc_items_number hs rfl rfl hp0 (hio0 rfl) rfl (fun cdv A outer s H E vs C => ?_), m, F.kp, kb_of F fun _ _ _ _ _ _ us ws hu hw => match us, ws, hu, hw with | [_], [], _, _ => rfl, trivial⟩
  have nd := sc_items_number.nd
  exact (ss_last (st_ret (TO.bin (g := fdivD) (fdivV) (TO.bin (g := mulD) (mulV C.hK) (TO.var (pv 0) rfl) (TO.bin (g := addD) (addV C.hK) (TO.var (pv 0) rfl) (TO.const pe_int fun _ _ => .int _) (fun _ z => nomatch z) rfl rfl) (fun _ z => nomatch z) rfl rfl) (TO.const pe_int fun _ _ => .int _) (fun _ z => nomatch z) rfl rfl)))
abbrev N__law_bag : List Str := [("script" : Str), ("cells" : Str), ("mixed" : Str), ("cell" : Str)]
abbrev s__law_bag : Stmt := top 19
theorem sc__law_bag : FnScope N__law_bag [("script" : Str)] (defScope s__law_bag) := ⟨rfl, rfl, rfl, by decide +kernel, rfl, by decide +kernel, by decide +kernel⟩
theorem h__law_bag {Pr : Program} {w : PySem.World} {P : Par2} {mg : Str → Option Value} {base : Heap} {f : Addr} {fd : FuncData} (hP : P.tp = tapeP)
    (hs : ∃ o, base.get? sysModules = some o)
    (b_abs : mg ("abs" : Str) = none)
    (b_int : mg ("int" : Str) = none)
    (b_len : mg ("len" : Str) = none)
    (F : FunD P.K ("_law_bag" : Str) ("_law_bag" : Str) (defArgs s__law_bag) (defBody s__law_bag) (defScope s__law_bag) [] [] f fd)
    (m : mg ("_law_bag" : Str) = some (.ref f)) :
    HasD Pr w P mg base 1 ("_law_bag" : Str) [("script" : Str)] (spT P [.scr] .tape v__law_bag) (fun fd => KB fd [("script" : Str)] 1 [] [0] ∧ True) := by
  refine ⟨f, fd, def0 (k := 0) (ms := [.scr]) (n := 3) (mr := .tape) (c := c__law_bag) (Mn := [.scr, .dead, .dead, .dead]) pvFst F sc__law_bag hs rfl rfl hp1 (hio1 rfl) rfl (fun cdv A outer s H E vs C => ?_), m, F.kp, kb_of F fun _ _ _ _ _ _ us ws hu hw => match us, ws, hu, hw with | [_], [], _, _ => rfl, trivial⟩
  have nd := sc__law_bag.nd
  exact (ss_cons (M1 := [.scr, (.lst .frz), .dead, .dead]) (st_setC (i := 1) (own := [(("cell" : Str), 3)]) (t := yesF) (fe := e__law_bag_1) C nd (is_seq C (TO.freeze (TO.scr (i := 0) C (pv 0)) rfl)) (by kernel_rfl) (fun _ _ _ _ _ C => (tg_name (i := 3) nd)) (fun _ _ _ _ _ C => ts_nil) (fun _ _ _ _ _ C => (TO.callB (g := one absD) (absV) rfl b_abs bt_abs (TAs.cons (TO.var (pv 3) rfl) TAs.nil (fun _ z => nomatch z) rfl) rfl (by decide) (by decide) rfl rfl)))
        (ss_cons (M1 := [.scr, (.lst .frz), .frz, .dead]) (st_set (i := 2) (TO.bin (g := addD) (addV C.hK) (TO.const pe_int fun _ _ => .int _) (TO.callB (g := one lenD) (lenV C.hK) rfl b_len bt_len (TAs.consS (m := (.lst .frz)) (pv 1) TAs.nil) rfl (by decide) (by decide) rfl rfl) (fun _ z => nomatch z) rfl rfl) nd)
        (ss_cons (M1 := [.scr, .frz, .frz, .dead]) (st_frz (i := 1) (m := (.lst .frz)) (st_for (Ml := [.scr, .frz, .frz, .dead]) (Mn := [.scr, .frz, .frz, .dead]) (f := b__law_bag_2) C never (is_seq C (TO.var (pv 1) rfl)) (tg_name (i := 3) nd) (ss_weak (M1 := [.scr, .frz, .frz, .frz]) (ss_last (st_set (i := 2) (TO.bin (g := modD) (modV) (TO.callT (g := one intOfD) (intOfV) rfl b_int bt_int (TAs.cons (TO.bin (g := addD) (addV C.hK) (TO.bin (g := addD) (addV C.hK) (TO.bin (g := mulD) (mulV C.hK) (TO.var (pv 2) rfl) (TO.const pe_int fun _ _ => .int _) (fun _ z => nomatch z) rfl rfl) (TO.bin (g := modD) (modV) (TO.callT (g := one intOfD) (intOfV) rfl b_int bt_int (TAs.cons (TO.var (pv 3) rfl) TAs.nil (fun _ z => nomatch z) rfl) rfl (by decide) (by decide) rfl rfl) (TO.const pe_int fun _ _ => .int _) (fun _ z => nomatch z) rfl rfl) (fun _ z => nomatch z) rfl rfl) (TO.const pe_int fun _ _ => .int _) (fun _ z => nomatch z) rfl rfl) TAs.nil (fun _ z => nomatch z) rfl) rfl (by decide) (by decide) rfl rfl) (TO.const pe_int fun _ _ => .int _) (fun _ z => nomatch z) rfl rfl) nd)))))
        (ss_last (st_ret (TO.bagNew hP (TO.revL C (TO.var (pv 1) rfl) rfl) pe_int (TO.var (pv 2) rfl)))))))
abbrev N__law_draw : List Str := [("bag" : Str), ("below" : Str), ("cell" : Str), ("found" : Str)]
abbrev s__law_draw : Stmt := top 20
theorem sc__law_draw : FnScope N__law_draw [("bag" : Str), ("below" : Str)] (defScope s__law_draw) := ⟨rfl, rfl, rfl, by decide +kernel, rfl, by decide +kernel, by decide +kernel⟩
theorem h__law_draw {Pr : Program} {w : PySem.World} {P : Par2} {mg : Str → Option Value} {base : Heap} {f : Addr} {fd : FuncData} (hP : P.tp = tapeP)
    (hs : ∃ o, base.get? sysModules = some o)
    (b_int : mg ("int" : Str) = none)
    (F : FunD P.K ("_law_draw" : Str) ("_law_draw" : Str) (defArgs s__law_draw) (defBody s__law_draw) (defScope s__law_draw) [] [] f fd)
    (m : mg ("_law_draw" : Str) = some (.ref f)) :
    HasD Pr w P mg base 1 ("_law_draw" : Str) [("bag" : Str), ("below" : Str)] (spT P [.tape, .frz] .frz v__law_draw) (fun fd => KB fd [("bag" : Str), ("below" : Str)] 2 [] [0, 1] ∧ True) := by
  refine ⟨f, fd, def0 (k := 0) (ms := [.tape, .frz]) (n := 2) (mr := .frz) (c := c__law_draw) (Mn := [.tape, .dead, .dead, .dead]) pvFst F sc__law_draw hs rfl rfl hp1 (hio1 rfl) rfl (fun cdv A outer s H E vs C => ?_), m, F.kp, kb_of F fun _ _ _ _ _ _ us ws hu hw => match us, ws, hu, hw with | [_, _], [], _, _ => rfl, trivial⟩
  have nd := sc__law_draw.nd
  exact (ss_cons (M1 := [.tape, .frz, .dead, .dead]) (st_while (Ml := [.tape, .frz, .dead, .dead]) (Mn := [.tape, .frz, .dead, .dead]) (fc := t__law_draw_2) (f := b__law_draw_1) never (PW.pt (tw_and (tt_cmp (g := eqD) (eqV C.hK (by have := C.hr.un; omega)) rfl (TO.bagGet (i := 0) (n := 1) hP C (pv 0) pe_int (fun _ _ => rfl)) (TO.const pe_int fun _ _ => .int _) (fun _ z => nomatch z) rfl rfl) (tw_and1 (tt_bagHas (i := 0) hP C (pv 0) pe_int (fun _ _ => rfl))))) (ss_weak (M1 := [.tape, .frz, .frz, .dead]) (ss_cons (M1 := [.tape, .frz, .frz, .dead]) (st_set (i := 2) (TO.bagPop (i := 0) hP C (pv 0) pe_int (fun _ _ => rfl)) nd)
        (ss_last (st_bagSet (i := 0) (n := 1) hP C (TO.ite (tt_cmp (g := gtD) (gtV C.hK) rfl (TO.var (pv 2) rfl) (TO.bin (g := powD) (powV) (TO.const pe_int fun _ _ => .int _) (TO.const pe_int fun _ _ => .int _) (fun _ z => nomatch z) rfl rfl) (fun _ z => nomatch z) rfl rfl) (TO.var (pv 2) rfl) (TO.const pe_int fun _ _ => .int _)) (pv 0) pe_int)))))
        (ss_cons (M1 := [.tape, .frz, .dead, .dead]) (st_if (tt_cmp (g := gtD) (gtV C.hK) rfl (TO.bagGet (i := 0) (n := 1) hP C (pv 0) pe_int (fun _ _ => rfl)) (TO.const pe_int fun _ _ => .int _) (fun _ z => nomatch z) rfl rfl) (ss_cons (M1 := [.tape, .frz, .dead, .frz]) (st_set (i := 3) (TO.bin (g := modD) (modV) (TO.callT (g := one intOfD) (intOfV) rfl b_int bt_int (TAs.cons (TO.bagGet (i := 0) (n := 1) hP C (pv 0) pe_int (fun _ _ => rfl)) TAs.nil (fun _ z => nomatch z) rfl) rfl (by decide) (by decide) rfl rfl) (TO.var (pv 1) rfl) (fun _ z => nomatch z) rfl rfl) nd)
        (ss_cons (M1 := [.tape, .frz, .dead, .frz]) (st_bagSet (i := 0) (n := 1) hP C (TO.bin (g := fdivD) (fdivV) (TO.bagGet (i := 0) (n := 1) hP C (pv 0) pe_int (fun _ _ => rfl)) (TO.var (pv 1) rfl) (fun _ z => nomatch z) rfl rfl) (pv 0) pe_int)
        (ss_last (st_ret (TO.var (pv 3) rfl))))) ss_nil)
        (ss_cons (M1 := [.tape, .frz, .dead, .dead]) (st_bagSet (i := 0) (n := 2) hP C (TO.bin (g := modD) (modV) (TO.callT (g := one intOfD) (intOfV) rfl b_int bt_int (TAs.cons (TO.bin (g := addD) (addV C.hK) (TO.bin (g := mulD) (mulV C.hK) (TO.bagGet (i := 0) (n := 2) hP C (pv 0) pe_int (fun _ _ => rfl)) (TO.const pe_int fun _ _ => .int _) (fun _ z => nomatch z) rfl rfl) (TO.const pe_int fun _ _ => .int _) (fun _ z => nomatch z) rfl rfl) TAs.nil (fun _ z => nomatch z) rfl) rfl (by decide) (by decide) rfl rfl) (TO.const pe_int fun _ _ => .int _) (fun _ z => nomatch z) rfl rfl) (pv 0) pe_int)
        (ss_last (st_ret (TO.bin (g := modD) (modV) (TO.callT (g := one intOfD) (intOfV) rfl b_int bt_int (TAs.cons (TO.bin (g := fdivD) (fdivV) (TO.bin (g := modD) (modV) (TO.callT (g := one intOfD) (intOfV) rfl b_int bt_int (TAs.cons (TO.bin (g := mulD) (mulV C.hK) (TO.bagGet (i := 0) (n := 2) hP C (pv 0) pe_int (fun _ _ => rfl)) (TO.bagGet (i := 0) (n := 2) hP C (pv 0) pe_int (fun _ _ => rfl)) (fun _ z => nomatch z) rfl rfl) TAs.nil (fun _ z => nomatch z) rfl) rfl (by decide) (by decide) rfl rfl) (TO.const pe_int fun _ _ => .int _) (fun _ z => nomatch z) rfl rfl) (TO.const pe_int fun _ _ => .int _) (fun _ z => nomatch z) rfl rfl) TAs.nil (fun _ z => nomatch z) rfl) rfl (by decide) (by decide) rfl rfl) (TO.var (pv 1) rfl) (fun _ z => nomatch z) rfl rfl))))))
abbrev N__law_same : List Str := [("told" : Str), ("due" : Str)]
abbrev s__law_same : Stmt := top 22
theorem sc__law_same : FnScope N__law_same [("told" : Str), ("due" : Str)] (defScope s__law_same) := ⟨rfl, rfl, rfl, by decide +kernel, rfl, by decide +kernel, by decide +kernel⟩
theorem h__law_same {Pr : Program} {w : PySem.World} {P : Par2} {mg : Str → Option Value} {base : Heap} {f : Addr} {fd : FuncData} (hP : P.tp = tapeP)
    (hs : ∃ o, base.get? sysModules = some o)
    (b_repr : mg ("repr" : Str) = none)
    (F : FunD P.K ("_law_same" : Str) ("_law_same" : Str) (defArgs s__law_same) (defBody s__law_same) (defScope s__law_same) [] [] f fd)
    (m : mg ("_law_same" : Str) = some (.ref f)) :
    HasD Pr w P mg base 1 ("_law_same" : Str) [("told" : Str), ("due" : Str)] (spT P [.frz, .frz] .frz v__law_same) (fun fd => KB fd [("told" : Str), ("due" : Str)] 2 [] [0, 1] ∧ True) := by
  refine ⟨f, fd, def0 (k := 0) (ms := [.frz, .frz]) (n := 0) (mr := .frz) (c := c__law_same) (Mn := [.dead, .dead]) (fun _ => []) F sc__law_same hs rfl rfl hp0 (hio0 rfl) rfl (fun cdv A outer s H E vs C => ?_), m, F.kp, kb_of F fun _ _ _ _ _ _ us ws hu hw => match us, ws, hu, hw with | [_, _], [], _, _ => rfl, trivial⟩
  have nd := sc__law_same.nd
  exact (ss_last (st_ret (TO.cmp (g := eqD) (eqV C.hK (by have := C.hr.un; omega)) rfl (TO.callB (g := one reprD) (reprV C.hK C.hs C.hg C.u66) rfl b_repr bt_repr (TAs.cons (TO.var (pv 0) rfl) TAs.nil (fun _ z => nomatch z) rfl) rfl (by decide) (by decide) rfl rfl) (TO.callB (g := one reprD) (reprV C.hK C.hs C.hg C.u66) rfl b_repr bt_repr (TAs.cons (TO.var (pv 1) rfl) TAs.nil (fun _ z => nomatch z) rfl) rfl (by decide) (by decide) rfl rfl) (fun _ z => nomatch z) rfl rfl)))
abbrev N__law_cut : List Str := [("row" : Str), ("sizes" : Str), ("found" : Str), ("at" : Str), ("size" : Str)]
abbrev s__law_cut : Stmt := top 24
theorem sc__law_cut : FnScope N__law_cut [("row" : Str), ("sizes" : Str)] (defScope s__law_cut) := ⟨rfl, rfl, rfl, by decide +kernel, rfl, by decide +kernel, by decide +kernel⟩
theorem h__law_cut {Pr : Program} {w : PySem.World} {P : Par2} {mg : Str → Option Value} {base : Heap} {f : Addr} {fd : FuncData} (hP : P.tp = tapeP)
    (hs : ∃ o, base.get? sysModules = some o)
    (b_tuple : mg ("tuple" : Str) = none)
    (F : FunD P.K ("_law_cut" : Str) ("_law_cut" : Str) (defArgs s__law_cut) (defBody s__law_cut) (defScope s__law_cut) [] [] f fd)
    (m : mg ("_law_cut" : Str) = some (.ref f)) :
    HasD Pr w P mg base 1 ("_law_cut" : Str) [("row" : Str), ("sizes" : Str)] (spT P [.frz, .frz] .frz v__law_cut) (fun fd => KB fd [("row" : Str), ("sizes" : Str)] 2 [] [0, 1] ∧ True) := by
  refine ⟨f, fd, def0 (k := 0) (ms := [.frz, .frz]) (n := 3) (mr := .frz) (c := c__law_cut) (Mn := [.dead, .dead, .dead, .dead, .dead]) (fun _ => []) F sc__law_cut hs rfl rfl hp0 (hio0 rfl) rfl (fun cdv A outer s H E vs C => ?_), m, F.kp, kb_of F fun _ _ _ _ _ _ us ws hu hw => match us, ws, hu, hw with | [_, _], [], _, _ => rfl, trivial⟩
  have nd := sc__law_cut.nd
  exact (ss_cons (M1 := [.frz, .frz, (.lst .frz), .frz, .dead]) (st_par2 (i := 2) (j := 3) C nd (TAs.cons (TO.list TAs.nil (by simp)) (TAs.cons (TO.const pe_int fun _ _ => .int _) TAs.nil (fun _ z => nomatch z) rfl) (fun _ z => nomatch z) rfl))
        (ss_cons (M1 := [.frz, .frz, (.lst .frz), .frz, .dead]) (st_for (Ml := [.frz, .frz, (.lst .frz), .frz, .dead]) (Mn := [.frz, .frz, (.lst .frz), .frz, .dead]) (f := b__law_cut_1) C never (is_seq C (TO.var (pv 1) rfl)) (tg_name (i := 4) nd) (ss_weak (M1 := [.frz, .frz, (.lst .frz), .frz, .frz]) (ss_cons (M1 := [.frz, .frz, (.lst .frz), .frz, .frz]) (st_expr (TO.meth (i := 2) (g := appendG) C lm_append PySem.F.slot_list_append PySem.F.type_list_append (pv 2) (TAs.cons (TO.callT (g := one tupleD) (tupleV C.hK) rfl b_tuple bt_tuple (TAs.cons (TO.sli C.hK (TO.var (pv 0) rfl) (tpart_some (TO.var (pv 3) rfl)) (tpart_some (TO.bin (g := addD) (addV C.hK) (TO.var (pv 3) rfl) (TO.var (pv 4) rfl) (fun _ z => nomatch z) rfl rfl)) (fun _ z => nomatch z) rfl) TAs.nil (fun _ z => nomatch z) rfl) rfl (by decide) (by decide) rfl rfl) TAs.nil (fun _ z => nomatch z) rfl) (by simp)))
        (ss_last (st_set (i := 3) (TO.bin (g := addD) (addV C.hK) (TO.var (pv 3) rfl) (TO.var (pv 4) rfl) (fun _ z => nomatch z) rfl rfl) nd)))))
        (ss_last (st_ret (TO.callT (g := one tupleD) (tupleV C.hK) rfl b_tuple bt_tuple (TAs.consS (m := (.lst .frz)) (pv 2) TAs.nil) rfl (by decide) (by decide) rfl rfl)))))
abbrev N__law_power : List Str := [("p" : Str), ("many" : Str), ("found" : Str), ("turn" : Str)]
abbrev s__law_power : Stmt := top 25
theorem sc__law_power : FnScope N__law_power [("p" : Str), ("many" : Str)] (defScope s__law_power) := ⟨rfl, rfl, rfl, by decide +kernel, rfl, by decide +kernel, by decide +kernel⟩
theorem h__law_power {Pr : Program} {w : PySem.World} {P : Par2} {mg : Str → Option Value} {base : Heap} {f : Addr} {fd : FuncData} (hP : P.tp = tapeP)
    (hs : ∃ o, base.get? sysModules = some o)
    (b_range : mg ("range" : Str) = none)
    (F : FunD P.K ("_law_power" : Str) ("_law_power" : Str) (defArgs s__law_power) (defBody s__law_power) (defScope s__law_power) [] [] f fd)
    (m : mg ("_law_power" : Str) = some (.ref f)) :
    HasD Pr w P mg base 1 ("_law_power" : Str) [("p" : Str), ("many" : Str)] (spT P [.frz, .frz] .frz v__law_power) (fun fd => KB fd [("p" : Str), ("many" : Str)] 2 [] [0, 1] ∧ True) := by
  refine ⟨f, fd, def0 (k := 0) (ms := [.frz, .frz]) (n := 2) (mr := .frz) (c := c__law_power) (Mn := [.dead, .dead, .dead, .dead]) (fun _ => []) F sc__law_power hs rfl rfl hp0 (hio0 rfl) rfl (fun cdv A outer s H E vs C => ?_), m, F.kp, kb_of F fun _ _ _ _ _ _ us ws hu hw => match us, ws, hu, hw with | [_, _], [], _, _ => rfl, trivial⟩
  have nd := sc__law_power.nd
  exact (ss_cons (M1 := [.frz, .frz, .frz, .dead]) (st_set (i := 2) (TO.const pe_int fun _ _ => .int _) nd)
        (ss_cons (M1 := [.frz, .frz, .frz, .dead]) (st_for (Ml := [.frz, .frz, .frz, .dead]) (Mn := [.frz, .frz, .frz, .dead]) (f := b__law_power_1) C never (rng1_post rfl b_range (TAs.cons (TO.var (pv 1) rfl) TAs.nil (fun _ z => nomatch z) rfl)) (tg_name (i := 3) nd) (ss_weak (M1 := [.frz, .frz, .frz, .frz]) (ss_last (st_set (i := 2) (TO.bin (g := mulD) (mulV C.hK) (TO.var (pv 2) rfl) (TO.var (pv 0) rfl) (fun _ z => nomatch z) rfl rfl) nd))))
        (ss_last (st_ret (TO.var (pv 2) rfl)))))
abbrev N__law_digits : List Str := [("p" : Str), ("many" : Str), ("place" : Str), ("found" : Str), ("turn" : Str)]
abbrev s__law_digits : Stmt := top 26
theorem sc__law_digits : FnScope N__law_digits [("p" : Str), ("many" : Str), ("place" : Str)] (defScope s__law_digits) := ⟨rfl, rfl, rfl, by decide +kernel, rfl, by decide +kernel, by decide +kernel⟩
theorem h__law_digits {Pr : Program} {w : PySem.World} {P : Par2} {mg : Str → Option Value} {base : Heap} {f : Addr} {fd : FuncData} (hP : P.tp = tapeP)
    (hs : ∃ o, base.get? sysModules = some o)
    (b_int : mg ("int" : Str) = none)
    (b_range : mg ("range" : Str) = none)
    (b_tuple : mg ("tuple" : Str) = none)
    (F : FunD P.K ("_law_digits" : Str) ("_law_digits" : Str) (defArgs s__law_digits) (defBody s__law_digits) (defScope s__law_digits) [] [] f fd)
    (m : mg ("_law_digits" : Str) = some (.ref f)) :
    HasD Pr w P mg base 1 ("_law_digits" : Str) [("p" : Str), ("many" : Str), ("place" : Str)] (spT P [.frz, .frz, .frz] .frz v__law_digits) (fun fd => KB fd [("p" : Str), ("many" : Str), ("place" : Str)] 3 [] [0, 1, 2] ∧ True) := by
  refine ⟨f, fd, def0 (k := 0) (ms := [.frz, .frz, .frz]) (n := 2) (mr := .frz) (c := c__law_digits) (Mn := [.dead, .dead, .dead, .dead, .dead]) (fun _ => []) F sc__law_digits hs rfl rfl hp0 (hio0 rfl) rfl (fun cdv A outer s H E vs C => ?_), m, F.kp, kb_of F fun _ _ _ _ _ _ us ws hu hw => match us, ws, hu, hw with | [_, _, _], [], _, _ => rfl, trivial⟩
  have nd := sc__law_digits.nd
  exact (ss_cons (M1 := [.frz, .frz, .frz, (.lst .frz), .dead]) (st_set (i := 3) (TO.list TAs.nil (by simp)) nd)
        (ss_cons (M1 := [.frz, .frz, .frz, (.lst .frz), .dead]) (st_for (Ml := [.frz, .frz, .frz, (.lst .frz), .dead]) (Mn := [.frz, .frz, .frz, (.lst .frz), .dead]) (f := b__law_digits_1) C never (rng1_post rfl b_range (TAs.cons (TO.var (pv 1) rfl) TAs.nil (fun _ z => nomatch z) rfl)) (tg_name (i := 4) nd) (ss_weak (M1 := [.frz, .frz, .frz, (.lst .frz), .frz]) (ss_cons (M1 := [.frz, .frz, .frz, (.lst .frz), .frz]) (st_expr (TO.meth (i := 3) (g := appendG) C lm_append PySem.F.slot_list_append PySem.F.type_list_append (pv 3) (TAs.cons (TO.bin (g := modD) (modV) (TO.callT (g := one intOfD) (intOfV) rfl b_int bt_int (TAs.cons (TO.var (pv 2) rfl) TAs.nil (fun _ z => nomatch z) rfl) rfl (by decide) (by decide) rfl rfl) (TO.var (pv 0) rfl) (fun _ z => nomatch z) rfl rfl) TAs.nil (fun _ z => nomatch z) rfl) (by simp)))
        (ss_last (st_set (i := 2) (TO.bin (g := fdivD) (fdivV) (TO.var (pv 2) rfl) (TO.var (pv 0) rfl) (fun _ z => nomatch z) rfl rfl) nd)))))
        (ss_last (st_ret (TO.callT (g := one tupleD) (tupleV C.hK) rfl b_tuple bt_tuple (TAs.cons (TO.rev C (TO.slot (m := (.lst .frz)) (pv 3) rfl (by decide)) rfl) TAs.nil (fun _ z => nomatch z) rfl) rfl (by decide) (by decide) rfl rfl)))))
abbrev N__law_place : List Str := [("p" : Str), ("row" : Str), ("found" : Str), ("number" : Str)]
abbrev s__law_place : Stmt := top 27
theorem sc__law_place : FnScope N__law_place [("p" : Str), ("row" : Str)] (defScope s__law_place) := ⟨rfl, rfl, rfl, by decide +kernel, rfl, by decide +kernel, by decide +kernel⟩
theorem h__law_place {Pr : Program} {w : PySem.World} {P : Par2} {mg : Str → Option Value} {base : Heap} {f : Addr} {fd : FuncData} (hP : P.tp = tapeP)
    (hs : ∃ o, base.get? sysModules = some o)
    (F : FunD P.K ("_law_place" : Str) ("_law_place" : Str) (defArgs s__law_place) (defBody s__law_place) (defScope s__law_place) [] [] f fd)
    (m : mg ("_law_place" : Str) = some (.ref f)) :
    HasD Pr w P mg base 1 ("_law_place" : Str) [("p" : Str), ("row" : Str)] (spT P [.frz, .frz] .frz v__law_place) (fun fd => KB fd [("p" : Str), ("row" : Str)] 2 [] [0, 1] ∧ True) := by
  refine ⟨f, fd, def0 (k := 0) (ms := [.frz, .frz]) (n := 2) (mr := .frz) (c := c__law_place) (Mn := [.dead, .dead, .dead, .dead]) (fun _ => []) F sc__law_place hs rfl rfl hp0 (hio0 rfl) rfl (fun cdv A outer s H E vs C => ?_), m, F.kp, kb_of F fun _ _ _ _ _ _ us ws hu hw => match us, ws, hu, hw with | [_, _], [], _, _ => rfl, trivial⟩
  have nd := sc__law_place.nd
  exact (ss_cons (M1 := [.frz, .frz, .frz, .dead]) (st_set (i := 2) (TO.const pe_int fun _ _ => .int _) nd)
        (ss_cons (M1 := [.frz, .frz, .frz, .dead]) (st_for (Ml := [.frz, .frz, .frz, .dead]) (Mn := [.frz, .frz, .frz, .dead]) (f := b__law_place_1) C never (is_seq C (TO.var (pv 1) rfl)) (tg_name (i := 3) nd) (ss_weak (M1 := [.frz, .frz, .frz, .frz]) (ss_last (st_set (i := 2) (TO.bin (g := addD) (addV C.hK) (TO.bin (g := mulD) (mulV C.hK) (TO.var (pv 2) rfl) (TO.var (pv 0) rfl) (fun _ z => nomatch z) rfl rfl) (TO.var (pv 3) rfl) (fun _ z => nomatch z) rfl rfl) nd))))
        (ss_last (st_ret (TO.var (pv 2) rfl)))))
abbrev N__law_laid : List Str := [("upper" : Str), ("found" : Str), ("row" : Str)]
abbrev s__law_laid : Stmt := top 30
theorem sc__law_laid : FnScope N__law_laid [("upper" : Str)] (defScope s__law_laid) := ⟨rfl, rfl, rfl, by decide +kernel, rfl, by decide +kernel, by decide +kernel⟩
theorem h__law_laid {Pr : Program} {w : PySem.World} {P : Par2} {mg : Str → Option Value} {base : Heap} {f : Addr} {fd : FuncData} (hP : P.tp = tapeP)
    (hs : ∃ o, base.get? sysModules = some o)
    (F : FunD P.K ("_law_laid" : Str) ("_law_laid" : Str) (defArgs s__law_laid) (defBody s__law_laid) (defScope s__law_laid) [] [] f fd)
    (m : mg ("_law_laid" : Str) = some (.ref f)) :
    HasD Pr w P mg base 1 ("_law_laid" : Str) [("upper" : Str)] (spT P [.frz] .frz v__law_laid) (fun fd => KB fd [("upper" : Str)] 1 [] [0] ∧ True) := by
  refine ⟨f, fd, def0 (k := 0) (ms := [.frz]) (n := 2) (mr := .frz) (c := c__law_laid) (Mn := [.dead, .dead, .dead]) (fun _ => []) F sc__law_laid hs rfl rfl hp0 (hio0 rfl) rfl (fun cdv A outer s H E vs C => ?_), m, F.kp, kb_of F fun _ _ _ _ _ _ us ws hu hw => match us, ws, hu, hw with | [_], [], _, _ => rfl, trivial⟩
  have nd := sc__law_laid.nd
  exact (ss_cons (M1 := [.frz, .frz, .dead]) (st_set (i := 1) (TO.tuple TAs.nil (by simp)) nd)
        (ss_cons (M1 := [.frz, .frz, .dead]) (st_for (Ml := [.frz, .frz, .dead]) (Mn := [.frz, .frz, .dead]) (f := b__law_laid_1) C never (is_seq C (TO.var (pv 0) rfl)) (tg_name (i := 2) nd) (ss_weak (M1 := [.frz, .frz, .frz]) (ss_last (st_set (i := 1) (TO.bin (g := addD) (addV C.hK) (TO.var (pv 1) rfl) (TO.var (pv 2) rfl) (fun _ z => nomatch z) rfl rfl) nd))))
        (ss_last (st_ret (TO.var (pv 1) rfl)))))
abbrev N__law_is_number : List Str := [("p" : Str), ("value" : Str)]
abbrev s__law_is_number : Stmt := top 32
theorem sc__law_is_number : FnScope N__law_is_number [("p" : Str), ("value" : Str)] (defScope s__law_is_number) := ⟨rfl, rfl, rfl, by decide +kernel, rfl, by decide +kernel, by decide +kernel⟩
theorem h__law_is_number {Pr : Program} {w : PySem.World} {P : Par2} {mg : Str → Option Value} {base : Heap} {f : Addr} {fd : FuncData} (hP : P.tp = tapeP)
    (hs : ∃ o, base.get? sysModules = some o)
    (b_bool : mg ("bool" : Str) = none)
    (b_int : mg ("int" : Str) = none)
    (b_isinstance : mg ("isinstance" : Str) = none)
    (F : FunD P.K ("_law_is_number" : Str) ("_law_is_number" : Str) (defArgs s__law_is_number) (defBody s__law_is_number) (defScope s__law_is_number) [] [] f fd)
    (m : mg ("_law_is_number" : Str) = some (.ref f)) :
    HasD Pr w P mg base 1 ("_law_is_number" : Str) [("p" : Str), ("value" : Str)] (spT P [.frz, .frz] .frz v__law_is_number) (fun fd => KB fd [("p" : Str), ("value" : Str)] 2 [] [0, 1] ∧ True) := by
  refine ⟨f, fd, def0 (k := 0) (ms := [.frz, .frz]) (n := 0) (mr := .frz) (c := c__law_is_number) (Mn := [.dead, .dead]) (fun _ => []) F sc__law_is_number hs rfl rfl hp0 (hio0 rfl) rfl (fun cdv A outer s H E vs C => ?_), m, F.kp, kb_of F fun _ _ _ _ _ _ us ws hu hw => match us, ws, hu, hw with | [_, _], [], _, _ => rfl, trivial⟩
  have nd := sc__law_is_number.nd
  exact (ss_last (st_ret (TO.and (TO.isi C rfl b_isinstance (pe_bty rfl b_int bt_int) (TO.var (pv 1) rfl) rfl) (TO.and (TO.not (TO.isi C rfl b_isinstance (pe_bty rfl b_bool bt_bool) (TO.var (pv 1) rfl) rfl)) (TO.one (TO.chain (g := leD) (g' := ltD) (leV C.hK (by have := C.hr.un; omega)) (ltV C.hK (by have := C.hr.un; omega)) rfl (TO.const pe_int fun _ _ => .int _) (TO.var (pv 1) rfl) (TO.var (pv 0) rfl)))))))
abbrev N__law_with : List Str := [("row" : Str), ("at" : Str), ("item" : Str)]
abbrev s__law_with : Stmt := top 34
theorem sc__law_with : FnScope N__law_with [("row" : Str), ("at" : Str), ("item" : Str)] (defScope s__law_with) := ⟨rfl, rfl, rfl, by decide +kernel, rfl, by decide +kernel, by decide +kernel⟩
theorem h__law_with {Pr : Program} {w : PySem.World} {P : Par2} {mg : Str → Option Value} {base : Heap} {f : Addr} {fd : FuncData} (hP : P.tp = tapeP)
    (hs : ∃ o, base.get? sysModules = some o)
    (F : FunD P.K ("_law_with" : Str) ("_law_with" : Str) (defArgs s__law_with) (defBody s__law_with) (defScope s__law_with) [] [] f fd)
    (m : mg ("_law_with" : Str) = some (.ref f)) :
    HasD Pr w P mg base 1 ("_law_with" : Str) [("row" : Str), ("at" : Str), ("item" : Str)] (spT P [.frz, .frz, .frz] .frz v__law_with) (fun fd => KB fd [("row" : Str), ("at" : Str), ("item" : Str)] 3 [] [0, 1, 2] ∧ True) := by
  refine ⟨f, fd, def0 (k := 0) (ms := [.frz, .frz, .frz]) (n := 0) (mr := .frz) (c := c__law_with) (Mn := [.dead, .dead, .dead]) (fun _ => []) F sc__law_with hs rfl rfl hp0 (hio0 rfl) rfl (fun cdv A outer s H E vs C => ?_), m, F.kp, kb_of F fun _ _ _ _ _ _ us ws hu hw => match us, ws, hu, hw with | [_, _, _], [], _, _ => rfl, trivial⟩
  have nd := sc__law_with.nd
  exact (ss_last (st_ret (TO.bin (g := addD) (addV C.hK) (TO.bin (g := addD) (addV C.hK) (TO.sli C.hK (TO.var (pv 0) rfl) tpart_none (tpart_some (TO.var (pv 1) rfl)) (fun _ z => nomatch z) rfl) (TO.tuple (TAs.cons (TO.var (pv 2) rfl) TAs.nil (fun _ z => nomatch z) rfl) (by simp)) (fun _ z => nomatch z) rfl rfl) (TO.sli C.hK (TO.var (pv 0) rfl) (tpart_some (TO.bin (g := addD) (addV C.hK) (TO.var (pv 1) rfl) (TO.const pe_int fun _ _ => .int _) (fun _ z => nomatch z) rfl rfl)) tpart_none (fun _ z => nomatch z) rfl) (fun _ z => nomatch z) rfl rfl)))
abbrev N_is_number : List Str := [("p" : Str), ("value" : Str)]
abbrev s_is_number : Stmt := top 2
theorem sc_is_number : FnScope N_is_number [("p" : Str), ("value" : Str)] (defScope s_is_number) := ⟨rfl, rfl, rfl, by decide +kernel, rfl, by decide +kernel, by decide +kernel⟩
theorem h_is_number {Pr : Program} {w : PySem.World} {P : Par2} {mg : Str → Option Value} {base : Heap} {f : Addr} {fd : FuncData} (hP : P.tp = tapeP)
    (hs : ∃ o, base.get? sysModules = some o)
    (H_is_integer : HasD Pr w P mg base 1 ("is_integer" : Str) [("value" : Str)] (spT P [.frz] .frz v_is_integer) (fun fd => KB fd [("value" : Str)] 1 [] [0] ∧ True))
    (F : FunD P.K ("is_number" : Str) ("is_number" : Str) (defArgs s_is_number) (defBody s_is_number) (defScope s_is_number) [] [] f fd)
    (m : mg ("is_number" : Str) = some (.ref f)) :
    HasD Pr w P mg base 2 ("is_number" : Str) [("p" : Str), ("value" : Str)] (spT P [.frz, .frz] .frz v_is_number) (fun fd => KB fd [("p" : Str), ("value" : Str)] 2 [] [0, 1] ∧ True) := by
  obtain ⟨f_is_integer, fd_is_integer, F_is_integer, m_is_integer, p_is_integer, k_is_integer⟩ := H_is_integer
  refine ⟨f, fd, def0 (k := 1) (ms := [.frz, .frz]) (n := 0) (mr := .frz) (c := c_is_number) (Mn := [.dead, .dead]) (fun _ => []) F sc_is_number hs rfl rfl hp0 (hio0 rfl) rfl (fun cdv A outer s H E vs C => ?_), m, F.kp, kb_of F fun _ _ _ _ _ _ us ws hu hw => match us, ws, hu, hw with | [_, _], [], _, _ => rfl, trivial⟩
  have nd := sc_is_number.nd
  exact (ss_last (st_ret (TO.and (TO.call (io := [none]) (os := [.tm .frz]) C F_is_integer m_is_integer p_is_integer Z.takes0 k_is_integer.1 (TAs.cons (TO.var (pv 1) rfl) TAs.nil (fun _ z => nomatch z) rfl)) (TO.one (TO.chain (g := leD) (g' := ltD) (leV C.hK (by have := C.hr.un; omega)) (ltV C.hK (by have := C.hr.un; omega)) rfl (TO.const pe_int fun _ _ => .int _) (TO.var (pv 1) rfl) (TO.var (pv 0) rfl))))))
abbrev N_uppers_number : List Str := [("p" : Str), ("l" : Str), ("found" : Str), ("step" : Str)]
abbrev s_uppers_number : Stmt := top 15
theorem sc_uppers_number : FnScope N_uppers_number [("p" : Str), ("l" : Str)] (defScope s_uppers_number) := ⟨rfl, rfl, rfl, by decide +kernel, rfl, by decide +kernel, by decide +kernel⟩
theorem h_uppers_number {Pr : Program} {w : PySem.World} {P : Par2} {mg : Str → Option Value} {base : Heap} {f : Addr} {fd : FuncData} (hP : P.tp = tapeP)
    (hs : ∃ o, base.get? sysModules = some o)
    (b_range : mg ("range" : Str) = none)
    (H_items_number : HasD Pr w P mg base 1 ("items_number" : Str) [("l" : Str)] (spT P [.frz] .frz v_items_number) (fun fd => KB fd [("l" : Str)] 1 [] [0] ∧ True))
    (F : FunD P.K ("uppers_number" : Str) ("uppers_number" : Str) (defArgs s_uppers_number) (defBody s_uppers_number) (defScope s_uppers_number) [] [] f fd)
    (m : mg ("uppers_number" : Str) = some (.ref f)) :
    HasD Pr w P mg base 2 ("uppers_number" : Str) [("p" : Str), ("l" : Str)] (spT P [.frz, .frz] .frz v_uppers_number) (fun fd => KB fd [("p" : Str), ("l" : Str)] 2 [] [0, 1] ∧ KB fd [("p" : Str), ("l" : Str)] 0 [("l" : Str), ("p" : Str)] [1, 0] ∧ True) := by
  obtain ⟨f_items_number, fd_items_number, F_items_number, m_items_number, p_items_number, k_items_number⟩ := H_items_number
  refine ⟨f, fd, def0 (k := 1) (ms := [.frz, .frz]) (n := 2) (mr := .frz) (c := c_uppers_number) (Mn := [.dead, .dead, .dead, .dead]) (fun _ => []) F sc_uppers_number hs rfl rfl hp0 (hio0 rfl) rfl (fun cdv A outer s H E vs C => ?_), m, F.kp, kb_of F fun _ _ _ _ _ _ us ws hu hw => match us, ws, hu, hw with | [_, _], [], _, _ => rfl, kb_of F fun _ _ _ _ _ _ us ws hu hw => match us, ws, hu, hw with | [], [_, _], _, _ => rfl, trivial⟩
  have nd := sc_uppers_number.nd
  exact (ss_cons (M1 := [.frz, .frz, .frz, .dead]) (st_set (i := 2) (TO.const pe_int fun _ _ => .int _) nd)
        (ss_cons (M1 := [.frz, .frz, .frz, .dead]) (st_for (Ml := [.frz, .frz, .frz, .dead]) (Mn := [.frz, .frz, .frz, .dead]) (f := b_uppers_number_1) C never (rng1_post rfl b_range (TAs.cons (TO.call (io := [none]) (os := [.tm .frz]) C F_items_number m_items_number p_items_number Z.takes0 k_items_number.1 (TAs.cons (TO.var (pv 1) rfl) TAs.nil (fun _ z => nomatch z) rfl)) TAs.nil (fun _ z => nomatch z) rfl)) (tg_name (i := 3) nd) (ss_weak (M1 := [.frz, .frz, .frz, .frz]) (ss_last (st_set (i := 2) (TO.bin (g := mulD) (mulV C.hK) (TO.var (pv 2) rfl) (TO.var (pv 0) rfl) (fun _ z => nomatch z) rfl rfl) nd))))
        (ss_last (st_ret (TO.var (pv 2) rfl)))))
abbrev N_upper_at : List Str := [("p" : Str), ("l" : Str), ("place" : Str)]
abbrev s_upper_at : Stmt := top 16
theorem sc_upper_at : FnScope N_upper_at [("p" : Str), ("l" : Str), ("place" : Str)] (defScope s_upper_at) := ⟨rfl, rfl, rfl, by decide +kernel, rfl, by decide +kernel, by decide +kernel⟩
theorem h_upper_at {Pr : Program} {w : PySem.World} {P : Par2} {mg : Str → Option Value} {base : Heap} {f : Addr} {fd : FuncData} (hP : P.tp = tapeP)
    (hs : ∃ o, base.get? sysModules = some o)
    (H_upper_of_laid : HasD Pr w P mg base 1 ("upper_of_laid" : Str) [("l" : Str), ("row" : Str)] (spT P [.frz, .frz] .frz v_upper_of_laid) (fun fd => KB fd [("l" : Str), ("row" : Str)] 2 [] [0, 1] ∧ KB fd [("l" : Str), ("row" : Str)] 0 [("row" : Str), ("l" : Str)] [1, 0] ∧ True))
    (H_row_at : HasD Pr w P mg base 1 ("row_at" : Str) [("p" : Str), ("n" : Str), ("place" : Str)] (spT P [.frz, .frz, .frz] .frz v_row_at) (fun fd => KB fd [("p" : Str), ("n" : Str), ("place" : Str)] 3 [] [0, 1, 2] ∧ True))
    (H_items_number : HasD Pr w P mg base 1 ("items_number" : Str) [("l" : Str)] (spT P [.frz] .frz v_items_number) (fun fd => KB fd [("l" : Str)] 1 [] [0] ∧ True))
    (F : FunD P.K ("upper_at" : Str) ("upper_at" : Str) (defArgs s_upper_at) (defBody s_upper_at) (defScope s_upper_at) [] [] f fd)
    (m : mg ("upper_at" : Str) = some (.ref f)) :
    HasD Pr w P mg base 2 ("upper_at" : Str) [("p" : Str), ("l" : Str), ("place" : Str)] (spT P [.frz, .frz, .frz] .frz v_upper_at) (fun fd => KB fd [("p" : Str), ("l" : Str), ("place" : Str)] 3 [] [0, 1, 2] ∧ KB fd [("p" : Str), ("l" : Str), ("place" : Str)] 0 [("place" : Str), ("l" : Str), ("p" : Str)] [2, 1, 0] ∧ True) := by
  obtain ⟨f_upper_of_laid, fd_upper_of_laid, F_upper_of_laid, m_upper_of_laid, p_upper_of_laid, k_upper_of_laid⟩ := H_upper_of_laid
  obtain ⟨f_row_at, fd_row_at, F_row_at, m_row_at, p_row_at, k_row_at⟩ := H_row_at
  obtain ⟨f_items_number, fd_items_number, F_items_number, m_items_number, p_items_number, k_items_number⟩ := H_items_number
  refine ⟨f, fd, def0 (k := 1) (ms := [.frz, .frz, .frz]) (n := 0) (mr := .frz) (c := c_upper_at) (Mn := [.dead, .dead, .dead]) (fun _ => []) F sc_upper_at hs rfl rfl hp0 (hio0 rfl) rfl (fun cdv A outer s H E vs C => ?_), m, F.kp, kb_of F fun _ _ _ _ _ _ us ws hu hw => match us, ws, hu, hw with | [_, _, _], [], _, _ => rfl, kb_of F fun _ _ _ _ _ _ us ws hu hw => match us, ws, hu, hw with | [], [_, _, _], _, _ => rfl, trivial⟩
  have nd := sc_upper_at.nd
  exact (ss_last (st_ret (TO.call (io := [none, none]) (os := [.tm .frz, .tm .frz]) C F_upper_of_laid m_upper_of_laid p_upper_of_laid Z.takes0 k_upper_of_laid.1 (TAs.cons (TO.var (pv 1) rfl) (TAs.cons (TO.call (io := [none, none, none]) (os := [.tm .frz, .tm .frz, .tm .frz]) C F_row_at m_row_at p_row_at Z.takes0 k_row_at.1 (TAs.cons (TO.var (pv 0) rfl) (TAs.cons (TO.call (io := [none]) (os := [.tm .frz]) C F_items_number m_items_number p_items_number Z.takes0 k_items_number.1 (TAs.cons (TO.var (pv 1) rfl) TAs.nil (fun _ z => nomatch z) rfl)) (TAs.cons (TO.var (pv 2) rfl) TAs.nil (fun _ z => nomatch z) rfl) (fun _ z => nomatch z) rfl) (fun _ z => nomatch z) rfl)) TAs.nil (fun _ z => nomatch z) rfl) (fun _ z => nomatch z) rfl))))
abbrev N_upper_place : List Str := [("p" : Str), ("upper" : Str)]
abbrev s_upper_place : Stmt := top 17
theorem sc_upper_place : FnScope N_upper_place [("p" : Str), ("upper" : Str)] (defScope s_upper_place) := ⟨rfl, rfl, rfl, by decide +kernel, rfl, by decide +kernel, by decide +kernel⟩
theorem h_upper_place {Pr : Program} {w : PySem.World} {P : Par2} {mg : Str → Option Value} {base : Heap} {f : Addr} {fd : FuncData} (hP : P.tp = tapeP)
    (hs : ∃ o, base.get? sysModules = some o)
    (H_row_place : HasD Pr w P mg base 1 ("row_place" : Str) [("p" : Str), ("row" : Str)] (spT P [.frz, .frz] .frz v_row_place) (fun fd => KB fd [("p" : Str), ("row" : Str)] 2 [] [0, 1] ∧ True))
    (H_laid_upper : HasD Pr w P mg base 1 ("laid_upper" : Str) [("upper" : Str)] (spT P [.frz] .frz v_laid_upper) (fun fd => KB fd [("upper" : Str)] 1 [] [0] ∧ KB fd [("upper" : Str)] 0 [("upper" : Str)] [0] ∧ True))
    (F : FunD P.K ("upper_place" : Str) ("upper_place" : Str) (defArgs s_upper_place) (defBody s_upper_place) (defScope s_upper_place) [] [] f fd)
    (m : mg ("upper_place" : Str) = some (.ref f)) :
    HasD Pr w P mg base 2 ("upper_place" : Str) [("p" : Str), ("upper" : Str)] (spT P [.frz, .frz] .frz v_upper_place) (fun fd => KB fd [("p" : Str), ("upper" : Str)] 2 [] [0, 1] ∧ KB fd [("p" : Str), ("upper" : Str)] 0 [("upper" : Str), ("p" : Str)] [1, 0] ∧ True) := by
  obtain ⟨f_row_place, fd_row_place, F_row_place, m_row_place, p_row_place, k_row_place⟩ := H_row_place
  obtain ⟨f_laid_upper, fd_laid_upper, F_laid_upper, m_laid_upper, p_laid_upper, k_laid_upper⟩ := H_laid_upper
  refine ⟨f, fd, def0 (k := 1) (ms := [.frz, .frz]) (n := 0) (mr := .frz) (c := c_upper_place) (Mn := [.dead, .dead]) (fun _ => []) F sc_upper_place hs rfl rfl hp0 (hio0 rfl) rfl (fun cdv A outer s H E vs C => ?_), m, F.kp, kb_of F fun _ _ _ _ _ _ us ws hu hw => match us, ws, hu, hw with | [_, _], [], _, _ => rfl, kb_of F fun _ _ _ _ _ _ us ws hu hw => match us, ws, hu, hw with | [], [_, _], _, _ => rfl, trivial⟩
  have nd := sc_upper_place.nd
  exact (ss_last (st_ret (TO.call (io := [none, none]) (os := [.tm .frz, .tm .frz]) C F_row_place m_row_place p_row_place Z.takes0 k_row_place.1 (TAs.cons (TO.var (pv 0) rfl) (TAs.cons (TO.call (io := [none]) (os := [.tm .frz]) C F_laid_upper m_laid_upper p_laid_upper Z.takes0 k_laid_upper.1 (TAs.cons (TO.var (pv 1) rfl) TAs.nil (fun _ z => nomatch z) rfl)) TAs.nil (fun _ z => nomatch z) rfl) (fun _ z => nomatch z) rfl))))
abbrev N__law_pick : List Str := [("bag" : Str), ("some" : Str)]
abbrev s__law_pick : Stmt := top 21
theorem sc__law_pick : FnScope N__law_pick [("bag" : Str), ("some" : Str)] (defScope s__law_pick) := ⟨rfl, rfl, rfl, by decide +kernel, rfl, by decide +kernel, by decide +kernel⟩
theorem h__law_pick {Pr : Program} {w : PySem.World} {P : Par2} {mg : Str → Option Value} {base : Heap} {f : Addr} {fd : FuncData} (hP : P.tp = tapeP)
    (hs : ∃ o, base.get? sysModules = some o)
    (b_len : mg ("len" : Str) = none)
    (H__law_draw : HasD Pr w P mg base 1 ("_law_draw" : Str) [("bag" : Str), ("below" : Str)] (spT P [.tape, .frz] .frz v__law_draw) (fun fd => KB fd [("bag" : Str), ("below" : Str)] 2 [] [0, 1] ∧ True))
    (F : FunD P.K ("_law_pick" : Str) ("_law_pick" : Str) (defArgs s__law_pick) (defBody s__law_pick) (defScope s__law_pick) [] [] f fd)
    (m : mg ("_law_pick" : Str) = some (.ref f)) :
    HasD Pr w P mg base 2 ("_law_pick" : Str) [("bag" : Str), ("some" : Str)] (spT P [.tape, .frz] .frz v__law_pick) (fun fd => KB fd [("bag" : Str), ("some" : Str)] 2 [] [0, 1] ∧ True) := by
  obtain ⟨f__law_draw, fd__law_draw, F__law_draw, m__law_draw, p__law_draw, k__law_draw⟩ := H__law_draw
  refine ⟨f, fd, def0 (k := 1) (ms := [.tape, .frz]) (n := 0) (mr := .frz) (c := c__law_pick) (Mn := [.tape, .dead]) pvFst F sc__law_pick hs rfl rfl hp1 (hio1 rfl) rfl (fun cdv A outer s H E vs C => ?_), m, F.kp, kb_of F fun _ _ _ _ _ _ us ws hu hw => match us, ws, hu, hw with | [_, _], [], _, _ => rfl, trivial⟩
  have nd := sc__law_pick.nd
  exact (ss_last (st_ret (TO.idx C.hK (TO.var (pv 1) rfl) (TO.call (io := [some 0, none]) (os := [.sl 0, .tm .frz]) C F__law_draw m__law_draw p__law_draw Z.takes0 k__law_draw.1 (TAs.consS (m := .tape) (pv 0) (TAs.cons (TO.callB (g := one lenD) (lenV C.hK) rfl b_len bt_len (TAs.cons (TO.var (pv 1) rfl) TAs.nil (fun _ z => nomatch z) rfl) rfl (by decide) (by decide) rfl rfl) TAs.nil (fun _ z => nomatch z) rfl))) (fun _ z => nomatch z) rfl rfl (fun _ _ => rfl))))
abbrev N__law_upper_of : List Str := [("l" : Str), ("row" : Str)]
abbrev s__law_upper_of : Stmt := top 28
theorem sc__law_upper_of : FnScope N__law_upper_of [("l" : Str), ("row" : Str)] (defScope s__law_upper_of) := ⟨rfl, rfl, rfl, by decide +kernel, rfl, by decide +kernel, by decide +kernel⟩
theorem h__law_upper_of {Pr : Program} {w : PySem.World} {P : Par2} {mg : Str → Option Value} {base : Heap} {f : Addr} {fd : FuncData} (hP : P.tp = tapeP)
    (hs : ∃ o, base.get? sysModules = some o)
    (b_list : mg ("list" : Str) = none)
    (b_range : mg ("range" : Str) = none)
    (H__law_cut : HasD Pr w P mg base 1 ("_law_cut" : Str) [("row" : Str), ("sizes" : Str)] (spT P [.frz, .frz] .frz v__law_cut) (fun fd => KB fd [("row" : Str), ("sizes" : Str)] 2 [] [0, 1] ∧ True))
    (F : FunD P.K ("_law_upper_of" : Str) ("_law_upper_of" : Str) (defArgs s__law_upper_of) (defBody s__law_upper_of) (defScope s__law_upper_of) [] [] f fd)
    (m : mg ("_law_upper_of" : Str) = some (.ref f)) :
    HasD Pr w P mg base 2 ("_law_upper_of" : Str) [("l" : Str), ("row" : Str)] (spT P [.frz, .frz] .frz v__law_upper_of) (fun fd => KB fd [("l" : Str), ("row" : Str)] 2 [] [0, 1] ∧ True) := by
  obtain ⟨f__law_cut, fd__law_cut, F__law_cut, m__law_cut, p__law_cut, k__law_cut⟩ := H__law_cut
  refine ⟨f, fd, def0 (k := 1) (ms := [.frz, .frz]) (n := 0) (mr := .frz) (c := c__law_upper_of) (Mn := [.dead, .dead]) (fun _ => []) F sc__law_upper_of hs rfl rfl hp0 (hio0 rfl) rfl (fun cdv A outer s H E vs C => ?_), m, F.kp, kb_of F fun _ _ _ _ _ _ us ws hu hw => match us, ws, hu, hw with | [_, _], [], _, _ => rfl, trivial⟩
  have nd := sc__law_upper_of.nd
  exact (ss_last (st_ret (TO.call (io := [none, none]) (os := [.tm .frz, .tm .frz]) C F__law_cut m__law_cut p__law_cut Z.takes0 k__law_cut.1 (TAs.cons (TO.var (pv 1) rfl) (TAs.cons (TO.freeze (TO.lstDn C rfl b_list rfl b_range (TAs.cons (TO.var (pv 0) rfl) (TAs.cons (TO.const pe_int fun _ _ => .int _) (TAs.cons (TO.un (g := negD) negV (TO.const pe_int fun _ _ => .int _) rfl) TAs.nil (fun _ z => nomatch z) rfl) (fun _ z => nomatch z) rfl) (fun _ z => nomatch z) rfl)) rfl) TAs.nil (fun _ z => nomatch z) rfl) (fun _ z => nomatch z) rfl))))
abbrev N__law_upper_fault : List Str := [("p" : Str), ("l" : Str), ("value" : Str), ("i" : Str), ("row" : Str), ("k" : Str), ("number" : Str)]
abbrev s__law_upper_fault : Stmt := top 33
theorem sc__law_upper_fault : FnScope N__law_upper_fault [("p" : Str), ("l" : Str), ("value" : Str)] (defScope s__law_upper_fault) := ⟨rfl, rfl, rfl, by decide +kernel, rfl, by decide +kernel, by decide +kernel⟩
theorem h__law_upper_fault {Pr : Program} {w : PySem.World} {P : Par2} {mg : Str → Option Value} {base : Heap} {f : Addr} {fd : FuncData} (hP : P.tp = tapeP)
    (hs : ∃ o, base.get? sysModules = some o)
    (b_enumerate : mg ("enumerate" : Str) = none)
    (b_isinstance : mg ("isinstance" : Str) = none)
    (b_len : mg ("len" : Str) = none)
    (b_tuple : mg ("tuple" : Str) = none)
    (H__law_is_number : HasD Pr w P mg base 1 ("_law_is_number" : Str) [("p" : Str), ("value" : Str)] (spT P [.frz, .frz] .frz v__law_is_number) (fun fd => KB fd [("p" : Str), ("value" : Str)] 2 [] [0, 1] ∧ True))
    (F : FunD P.K ("_law_upper_fault" : Str) ("_law_upper_fault" : Str) (defArgs s__law_upper_fault) (defBody s__law_upper_fault) (defScope s__law_upper_fault) [] [] f fd)
    (m : mg ("_law_upper_fault" : Str) = some (.ref f)) :
    HasD Pr w P mg base 2 ("_law_upper_fault" : Str) [("p" : Str), ("l" : Str), ("value" : Str)] (spT P [.frz, .frz, .frz] .frz v__law_upper_fault) (fun fd => KB fd [("p" : Str), ("l" : Str), ("value" : Str)] 3 [] [0, 1, 2] ∧ True) := by
  obtain ⟨f__law_is_number, fd__law_is_number, F__law_is_number, m__law_is_number, p__law_is_number, k__law_is_number⟩ := H__law_is_number
  refine ⟨f, fd, def0 (k := 1) (ms := [.frz, .frz, .frz]) (n := 4) (mr := .frz) (c := c__law_upper_fault) (Mn := [.dead, .dead, .dead, .dead, .dead, .dead, .dead]) (fun _ => []) F sc__law_upper_fault hs rfl rfl hp0 (hio0 rfl) rfl (fun cdv A outer s H E vs C => ?_), m, F.kp, kb_of F fun _ _ _ _ _ _ us ws hu hw => match us, ws, hu, hw with | [_, _, _], [], _, _ => rfl, trivial⟩
  have nd := sc__law_upper_fault.nd
  exact (ss_cons (M1 := [.frz, .frz, .frz, .dead, .dead, .dead, .dead]) (st_if (PW.pt (tw_or (tt_not (tt_val (TO.isi C rfl b_isinstance (pe_bty rfl b_tuple bt_tuple) (TO.var (pv 2) rfl) rfl) fun _ => rfl)) (tw_or1 (tt_cmp (g := neD) (neV C.hK (by have := C.hr.un; omega)) rfl (TO.callB (g := one lenD) (lenV C.hK) rfl b_len bt_len (TAs.cons (TO.var (pv 2) rfl) TAs.nil (fun _ z => nomatch z) rfl) rfl (by decide) (by decide) rfl rfl) (TO.var (pv 1) rfl) (fun _ z => nomatch z) rfl rfl)))) (ss_last (st_ret (TO.const pe_str fun _ _ => .str _))) ss_nil)
        (ss_cons (M1 := [.frz, .frz, .frz, .dead, .dead, .dead, .dead]) (st_for (Ml := [.frz, .frz, .frz, .dead, .dead, .dead, .dead]) (Mn := [.frz, .frz, .frz, .dead, .dead, .dead, .dead]) (f := b__law_upper_fault_1) C never (is_enum C rfl b_enumerate (TAs.cons (TO.var (pv 2) rfl) TAs.nil (fun _ z => nomatch z) rfl)) (tg_ch (tg_tupP C (tgs_cons (tg_name (i := 3) nd) (tgs_cons (tg_name (i := 4) nd) tgs_nil)))) (ss_weak (M1 := [.frz, .frz, .frz, .frz, .frz, .dead, .dead]) (ss_last (st_if (PW.pt (tw_or (tt_not (tt_val (TO.isi C rfl b_isinstance (pe_bty rfl b_tuple bt_tuple) (TO.var (pv 4) rfl) rfl) fun _ => rfl)) (tw_or1 (tt_cmp (g := neD) (neV C.hK (by have := C.hr.un; omega)) rfl (TO.callB (g := one lenD) (lenV C.hK) rfl b_len bt_len (TAs.cons (TO.var (pv 4) rfl) TAs.nil (fun _ z => nomatch z) rfl) rfl (by decide) (by decide) rfl rfl) (TO.bin (g := subD) (subV) (TO.var (pv 1) rfl) (TO.var (pv 3) rfl) (fun _ z => nomatch z) rfl rfl) (fun _ z => nomatch z) rfl rfl)))) (ss_last (st_ret (TO.tuple (TAs.cons (TO.const pe_str fun _ _ => .str _) (TAs.cons (TO.var (pv 3) rfl) TAs.nil (fun _ z => nomatch z) rfl) (fun _ z => nomatch z) rfl) (by simp)))) ss_nil))))
        (ss_cons (M1 := [.frz, .frz, .frz, .dead, .dead, .dead, .dead]) (st_for (Ml := [.frz, .frz, .frz, .dead, .dead, .dead, .dead]) (Mn := [.frz, .frz, .frz, .dead, .dead, .dead, .dead]) (f := b__law_upper_fault_3) C never (is_enum C rfl b_enumerate (TAs.cons (TO.var (pv 2) rfl) TAs.nil (fun _ z => nomatch z) rfl)) (tg_ch (tg_tupP C (tgs_cons (tg_name (i := 3) nd) (tgs_cons (tg_name (i := 4) nd) tgs_nil)))) (ss_weak (M1 := [.frz, .frz, .frz, .frz, .frz, .dead, .dead]) (ss_last (st_for (Ml := [.frz, .frz, .frz, .frz, .frz, .dead, .dead]) (Mn := [.frz, .frz, .frz, .frz, .frz, .dead, .dead]) (f := b__law_upper_fault_2) C never (is_enum C rfl b_enumerate (TAs.cons (TO.var (pv 4) rfl) TAs.nil (fun _ z => nomatch z) rfl)) (tg_ch (tg_tupP C (tgs_cons (tg_name (i := 5) nd) (tgs_cons (tg_name (i := 6) nd) tgs_nil)))) (ss_weak (M1 := [.frz, .frz, .frz, .frz, .frz, .frz, .frz]) (ss_last (st_if (tt_not (tt_val (TO.call (io := [none, none]) (os := [.tm .frz, .tm .frz]) C F__law_is_number m__law_is_number p__law_is_number Z.takes0 k__law_is_number.1 (TAs.cons (TO.var (pv 0) rfl) (TAs.cons (TO.var (pv 6) rfl) TAs.nil (fun _ z => nomatch z) rfl) (fun _ z => nomatch z) rfl)) fun _ => rfl)) (ss_last (st_ret (TO.tuple (TAs.cons (TO.const pe_str fun _ _ => .str _) (TAs.cons (TO.var (pv 3) rfl) (TAs.cons (TO.bin (g := addD) (addV C.hK) (TO.var (pv 3) rfl) (TO.var (pv 5) rfl) (fun _ z => nomatch z) rfl rfl) TAs.nil (fun _ z => nomatch z) rfl) (fun _ z => nomatch z) rfl) (fun _ z => nomatch z) rfl) (by simp)))) ss_nil)))))))
        (ss_last (st_ret (TO.const pe_non fun _ _ => .non))))))
abbrev N__law_are_items_right : List Str := [("bag" : Str), ("l" : Str), ("upper" : Str), ("i" : Str), ("j" : Str), ("due" : Str)]
abbrev s__law_are_items_right : Stmt := top 40
theorem sc__law_are_items_right : FnScope N__law_are_items_right [("bag" : Str), ("l" : Str), ("upper" : Str)] (defScope s__law_are_items_right) := ⟨rfl, rfl, rfl, by decide +kernel, rfl, by decide +kernel, by decide +kernel⟩
theorem h__law_are_items_right {Pr : Program} {w : PySem.World} {P : Par2} {mg : Str → Option Value} {base : Heap} {f : Addr} {fd : FuncData} (hP : P.tp = tapeP)
    (hs : ∃ o, base.get? sysModules = some o)
    (b_range : mg ("range" : Str) = none)
    (b_set : mg ("set" : Str) = none)
    (b_sorted : mg ("sorted" : Str) = none)
    (H__law_same : HasD Pr w P mg base 1 ("_law_same" : Str) [("told" : Str), ("due" : Str)] (spT P [.frz, .frz] .frz v__law_same) (fun fd => KB fd [("told" : Str), ("due" : Str)] 2 [] [0, 1] ∧ True))
    (H__law_draw : HasD Pr w P mg base 1 ("_law_draw" : Str) [("bag" : Str), ("below" : Str)] (spT P [.tape, .frz] .frz v__law_draw) (fun fd => KB fd [("bag" : Str), ("below" : Str)] 2 [] [0, 1] ∧ True))
    (H_upper_item : HasD Pr w P mg base 1 ("upper_item" : Str) [("upper" : Str), ("i" : Str), ("j" : Str)] (spT P [.frz, .frz, .frz] .frz v_upper_item) (fun fd => KB fd [("upper" : Str), ("i" : Str), ("j" : Str)] 3 [] [0, 1, 2] ∧ KB fd [("upper" : Str), ("i" : Str), ("j" : Str)] 0 [("j" : Str), ("i" : Str), ("upper" : Str)] [2, 1, 0] ∧ True))
    (F : FunD P.K ("_law_are_items_right" : Str) ("_law_are_items_right" : Str) (defArgs s__law_are_items_right) (defBody s__law_are_items_right) (defScope s__law_are_items_right) [] [] f fd)
    (m : mg ("_law_are_items_right" : Str) = some (.ref f)) :
    HasD Pr w P mg base 2 ("_law_are_items_right" : Str) [("bag" : Str), ("l" : Str), ("upper" : Str)] (spT P [.tape, .frz, .frz] .frz v__law_are_items_right) (fun fd => KB fd [("bag" : Str), ("l" : Str), ("upper" : Str)] 3 [] [0, 1, 2] ∧ True) := by
  obtain ⟨f__law_same, fd__law_same, F__law_same, m__law_same, p__law_same, k__law_same⟩ := H__law_same
  obtain ⟨f__law_draw, fd__law_draw, F__law_draw, m__law_draw, p__law_draw, k__law_draw⟩ := H__law_draw
  obtain ⟨f_upper_item, fd_upper_item, F_upper_item, m_upper_item, p_upper_item, k_upper_item⟩ := H_upper_item
  refine ⟨f, fd, def0 (k := 1) (ms := [.tape, .frz, .frz]) (n := 3) (mr := .frz) (c := c__law_are_items_right) (Mn := [.tape, .dead, .dead, .dead, .dead, .dead]) pvFst F sc__law_are_items_right hs rfl rfl hp1 (hio1 rfl) rfl (fun cdv A outer s H E vs C => ?_), m, F.kp, kb_of F fun _ _ _ _ _ _ us ws hu hw => match us, ws, hu, hw with | [_, _, _], [], _, _ => rfl, trivial⟩
  have nd := sc__law_are_items_right.nd
  exact (ss_cons (M1 := [.tape, .frz, .frz, .dead, .dead, .dead]) (st_for (Ml := [.tape, .frz, .frz, .dead, .dead, .dead]) (Mn := [.tape, .frz, .frz, .dead, .dead, .dead]) (f := b__law_are_items_right_2) C never (rng1_post rfl b_range (TAs.cons (TO.var (pv 1) rfl) TAs.nil (fun _ z => nomatch z) rfl)) (tg_name (i := 3) nd) (ss_weak (M1 := [.tape, .frz, .frz, .frz, .dead, .dead]) (ss_last (st_for (Ml := [.tape, .frz, .frz, .frz, .dead, .dead]) (Mn := [.tape, .frz, .frz, .frz, .dead, .dead]) (f := b__law_are_items_right_1) C never (is_seq C (TO.freeze (TO.sset C rfl b_sorted rfl b_set (TO.list (TAs.cons (TO.var (pv 3) rfl) (TAs.cons (TO.bin (g := subD) (subV) (TO.var (pv 1) rfl) (TO.const pe_int fun _ _ => .int _) (fun _ z => nomatch z) rfl rfl) (TAs.cons (TO.bin (g := addD) (addV C.hK) (TO.var (pv 3) rfl) (TO.call (io := [some 0, none]) (os := [.sl 0, .tm .frz]) C F__law_draw m__law_draw p__law_draw Z.takes0 k__law_draw.1 (TAs.consS (m := .tape) (pv 0) (TAs.cons (TO.bin (g := subD) (subV) (TO.var (pv 1) rfl) (TO.var (pv 3) rfl) (fun _ z => nomatch z) rfl rfl) TAs.nil (fun _ z => nomatch z) rfl))) (fun _ z => nomatch z) rfl rfl) TAs.nil (fun _ z => nomatch z) rfl) (fun _ z => nomatch z) rfl) (fun _ z => nomatch z) rfl) (by simp)) rfl) rfl)) (tg_name (i := 4) nd) (ss_weak (M1 := [.tape, .frz, .frz, .frz, .frz, .frz]) (ss_cons (M1 := [.tape, .frz, .frz, .frz, .frz, .frz]) (st_set (i := 5) (TO.idx C.hK (TO.idx C.hK (TO.var (pv 2) rfl) (TO.var (pv 3) rfl) (fun _ z => nomatch z) rfl rfl (fun _ _ => rfl)) (TO.bin (g := subD) (subV) (TO.var (pv 4) rfl) (TO.var (pv 3) rfl) (fun _ z => nomatch z) rfl rfl) (fun _ z => nomatch z) rfl rfl (fun _ _ => rfl)) nd)
        (ss_last (st_if (tt_not (tt_val (TO.call (io := [none, none]) (os := [.tm .frz, .tm .frz]) C F__law_same m__law_same p__law_same Z.takes0 k__law_same.1 (TAs.cons (TO.freeze (TO.list (TAs.cons (TO.call (io := [none, none, none]) (os := [.tm .frz, .tm .frz, .tm .frz]) C F_upper_item m_upper_item p_upper_item Z.takes0 k_upper_item.1 (TAs.cons (TO.var (pv 2) rfl) (TAs.cons (TO.var (pv 3) rfl) (TAs.cons (TO.var (pv 4) rfl) TAs.nil (fun _ z => nomatch z) rfl) (fun _ z => nomatch z) rfl) (fun _ z => nomatch z) rfl)) (TAs.cons (TO.callK0 (io := [none, none, none]) (ok := [.tm .frz, .tm .frz, .tm .frz]) C F_upper_item m_upper_item p_upper_item Z.takes0 k_upper_item.2.1 (TKs.cons (TO.var (pv 4) rfl) (TKs.cons (TO.var (pv 3) rfl) (TKs.cons (TO.var (pv 2) rfl) TKs.nil (fun _ z => nomatch z)) (fun _ z => nomatch z)) (fun _ z => nomatch z))) TAs.nil (fun _ z => nomatch z) rfl) (fun _ z => nomatch z) rfl) (by simp)) rfl) (TAs.cons (TO.freeze (TO.list (TAs.cons (TO.var (pv 5) rfl) (TAs.cons (TO.var (pv 5) rfl) TAs.nil (fun _ z => nomatch z) rfl) (fun _ z => nomatch z) rfl) (by simp)) rfl) TAs.nil (fun _ z => nomatch z) rfl) (fun _ z => nomatch z) rfl)) fun _ => rfl)) (ss_last (st_ret (TO.const pe_bl fun _ _ => .bl false))) ss_nil))))))))
        (ss_last (st_ret (TO.const pe_bl fun _ _ => .bl true))))
abbrev N_upper_error : List Str := [("p" : Str), ("l" : Str), ("value" : Str), ("i" : Str), ("row" : Str), ("k" : Str), ("item" : Str)]
abbrev s_upper_error : Stmt := top 7
theorem sc_upper_error : FnScope N_upper_error [("p" : Str), ("l" : Str), ("value" : Str)] (defScope s_upper_error) := ⟨rfl, rfl, rfl, by decide +kernel, rfl, by decide +kernel, by decide +kernel⟩
theorem h_upper_error {Pr : Program} {w : PySem.World} {P : Par2} {mg : Str → Option Value} {base : Heap} {f : Addr} {fd : FuncData} (hP : P.tp = tapeP)
    (hs : ∃ o, base.get? sysModules = some o)
    (b_enumerate : mg ("enumerate" : Str) = none)
    (b_isinstance : mg ("isinstance" : Str) = none)
    (b_len : mg ("len" : Str) = none)
    (b_tuple : mg ("tuple" : Str) = none)
    (H_is_number : HasD Pr w P mg base 2 ("is_number" : Str) [("p" : Str), ("value" : Str)] (spT P [.frz, .frz] .frz v_is_number) (fun fd => KB fd [("p" : Str), ("value" : Str)] 2 [] [0, 1] ∧ True))
    (F : FunD P.K ("upper_error" : Str) ("upper_error" : Str) (defArgs s_upper_error) (defBody s_upper_error) (defScope s_upper_error) [] [] f fd)
    (m : mg ("upper_error" : Str) = some (.ref f)) :
    HasD Pr w P mg base 3 ("upper_error" : Str) [("p" : Str), ("l" : Str), ("value" : Str)] (spT P [.frz, .frz, .frz] .frz v_upper_error) (fun fd => KB fd [("p" : Str), ("l" : Str), ("value" : Str)] 3 [] [0, 1, 2] ∧ KB fd [("p" : Str), ("l" : Str), ("value" : Str)] 0 [("value" : Str), ("l" : Str), ("p" : Str)] [2, 1, 0] ∧ True) := by
  obtain ⟨f_is_number, fd_is_number, F_is_number, m_is_number, p_is_number, k_is_number⟩ := H_is_number
  refine ⟨f, fd, def0 (k := 2) (ms := [.frz, .frz, .frz]) (n := 4) (mr := .frz) (c := c_upper_error) (Mn := [.dead, .dead, .dead, .dead, .dead, .dead, .dead]) (fun _ => []) F sc_upper_error hs rfl rfl hp0 (hio0 rfl) rfl (fun cdv A outer s H E vs C => ?_), m, F.kp, kb_of F fun _ _ _ _ _ _ us ws hu hw => match us, ws, hu, hw with | [_, _, _], [], _, _ => rfl, kb_of F fun _ _ _ _ _ _ us ws hu hw => match us, ws, hu, hw with | [], [_, _, _], _, _ => rfl, trivial⟩
  have nd := sc_upper_error.nd
  exact (ss_cons (M1 := [.frz, .frz, .frz, .dead, .dead, .dead, .dead]) (st_if (PW.pt (tw_or (tt_not (tt_val (TO.isi C rfl b_isinstance (pe_bty rfl b_tuple bt_tuple) (TO.var (pv 2) rfl) rfl) fun _ => rfl)) (tw_or1 (tt_cmp (g := neD) (neV C.hK (by have := C.hr.un; omega)) rfl (TO.callB (g := one lenD) (lenV C.hK) rfl b_len bt_len (TAs.cons (TO.var (pv 2) rfl) TAs.nil (fun _ z => nomatch z) rfl) rfl (by decide) (by decide) rfl rfl) (TO.var (pv 1) rfl) (fun _ z => nomatch z) rfl rfl)))) (ss_last (st_ret (TO.const pe_str fun _ _ => .str _))) ss_nil)
        (ss_cons (M1 := [.frz, .frz, .frz, .dead, .dead, .dead, .dead]) (st_for (Ml := [.frz, .frz, .frz, .dead, .dead, .dead, .dead]) (Mn := [.frz, .frz, .frz, .dead, .dead, .dead, .dead]) (f := b_upper_error_1) C never (is_enum C rfl b_enumerate (TAs.cons (TO.var (pv 2) rfl) TAs.nil (fun _ z => nomatch z) rfl)) (tg_ch (tg_tupP C (tgs_cons (tg_name (i := 3) nd) (tgs_cons (tg_name (i := 4) nd) tgs_nil)))) (ss_weak (M1 := [.frz, .frz, .frz, .frz, .frz, .dead, .dead]) (ss_last (st_if (PW.pt (tw_or (tt_not (tt_val (TO.isi C rfl b_isinstance (pe_bty rfl b_tuple bt_tuple) (TO.var (pv 4) rfl) rfl) fun _ => rfl)) (tw_or1 (tt_cmp (g := neD) (neV C.hK (by have := C.hr.un; omega)) rfl (TO.callB (g := one lenD) (lenV C.hK) rfl b_len bt_len (TAs.cons (TO.var (pv 4) rfl) TAs.nil (fun _ z => nomatch z) rfl) rfl (by decide) (by decide) rfl rfl) (TO.bin (g := subD) (subV) (TO.var (pv 1) rfl) (TO.var (pv 3) rfl) (fun _ z => nomatch z) rfl rfl) (fun _ z => nomatch z) rfl rfl)))) (ss_last (st_ret (TO.tuple (TAs.cons (TO.const pe_str fun _ _ => .str _) (TAs.cons (TO.var (pv 3) rfl) TAs.nil (fun _ z => nomatch z) rfl) (fun _ z => nomatch z) rfl) (by simp)))) ss_nil))))
        (ss_cons (M1 := [.frz, .frz, .frz, .dead, .dead, .dead, .dead]) (st_for (Ml := [.frz, .frz, .frz, .dead, .dead, .dead, .dead]) (Mn := [.frz, .frz, .frz, .dead, .dead, .dead, .dead]) (f := b_upper_error_3) C never (is_enum C rfl b_enumerate (TAs.cons (TO.var (pv 2) rfl) TAs.nil (fun _ z => nomatch z) rfl)) (tg_ch (tg_tupP C (tgs_cons (tg_name (i := 3) nd) (tgs_cons (tg_name (i := 4) nd) tgs_nil)))) (ss_weak (M1 := [.frz, .frz, .frz, .frz, .frz, .dead, .dead]) (ss_last (st_for (Ml := [.frz, .frz, .frz, .frz, .frz, .dead, .dead]) (Mn := [.frz, .frz, .frz, .frz, .frz, .dead, .dead]) (f := b_upper_error_2) C never (is_enum C rfl b_enumerate (TAs.cons (TO.var (pv 4) rfl) TAs.nil (fun _ z => nomatch z) rfl)) (tg_ch (tg_tupP C (tgs_cons (tg_name (i := 5) nd) (tgs_cons (tg_name (i := 6) nd) tgs_nil)))) (ss_weak (M1 := [.frz, .frz, .frz, .frz, .frz, .frz, .frz]) (ss_last (st_if (tt_not (tt_val (TO.call (io := [none, none]) (os := [.tm .frz, .tm .frz]) C F_is_number m_is_number p_is_number Z.takes0 k_is_number.1 (TAs.cons (TO.var (pv 0) rfl) (TAs.cons (TO.var (pv 6) rfl) TAs.nil (fun _ z => nomatch z) rfl) (fun _ z => nomatch z) rfl)) fun _ => rfl)) (ss_last (st_ret (TO.tuple (TAs.cons (TO.const pe_str fun _ _ => .str _) (TAs.cons (TO.var (pv 3) rfl) (TAs.cons (TO.bin (g := addD) (addV C.hK) (TO.var (pv 3) rfl) (TO.var (pv 5) rfl) (fun _ z => nomatch z) rfl rfl) TAs.nil (fun _ z => nomatch z) rfl) (fun _ z => nomatch z) rfl) (fun _ z => nomatch z) rfl) (by simp)))) ss_nil)))))))
        (ss_last (st_ret (TO.const pe_non fun _ _ => .non))))))
abbrev N__law_numbers : List Str := [("bag" : Str), ("p" : Str), ("many" : Str), ("way" : Str), ("at" : Str), ("place" : Str)]
abbrev s__law_numbers : Stmt := top 23
theorem sc__law_numbers : FnScope N__law_numbers [("bag" : Str), ("p" : Str), ("many" : Str)] (defScope s__law_numbers) := ⟨rfl, rfl, rfl, by decide +kernel, rfl, by decide +kernel, by decide +kernel⟩
theorem h__law_numbers {Pr : Program} {w : PySem.World} {P : Par2} {mg : Str → Option Value} {base : Heap} {f : Addr} {fd : FuncData} (hP : P.tp = tapeP)
    (hs : ∃ o, base.get? sysModules = some o)
    (b_range : mg ("range" : Str) = none)
    (b_tuple : mg ("tuple" : Str) = none)
    (H__law_draw : HasD Pr w P mg base 1 ("_law_draw" : Str) [("bag" : Str), ("below" : Str)] (spT P [.tape, .frz] .frz v__law_draw) (fun fd => KB fd [("bag" : Str), ("below" : Str)] 2 [] [0, 1] ∧ True))
    (H__law_pick : HasD Pr w P mg base 2 ("_law_pick" : Str) [("bag" : Str), ("some" : Str)] (spT P [.tape, .frz] .frz v__law_pick) (fun fd => KB fd [("bag" : Str), ("some" : Str)] 2 [] [0, 1] ∧ True))
    (F : FunD P.K ("_law_numbers" : Str) ("_law_numbers" : Str) (defArgs s__law_numbers) (defBody s__law_numbers) (defScope s__law_numbers) [] [] f fd)
    (m : mg ("_law_numbers" : Str) = some (.ref f)) :
    HasD Pr w P mg base 3 ("_law_numbers" : Str) [("bag" : Str), ("p" : Str), ("many" : Str)] (spT P [.tape, .frz, .frz] .frz v__law_numbers) (fun fd => KB fd [("bag" : Str), ("p" : Str), ("many" : Str)] 3 [] [0, 1, 2] ∧ True) := by
  obtain ⟨f__law_draw, fd__law_draw, F__law_draw, m__law_draw, p__law_draw, k__law_draw⟩ := H__law_draw
  obtain ⟨f__law_pick, fd__law_pick, F__law_pick, m__law_pick, p__law_pick, k__law_pick⟩ := H__law_pick
  refine ⟨f, fd, def0 (k := 2) (ms := [.tape, .frz, .frz]) (n := 3) (mr := .frz) (c := c__law_numbers) (Mn := [.tape, .dead, .dead, .dead, .dead, .dead]) pvFst F sc__law_numbers hs rfl rfl hp1 (hio1 rfl) rfl (fun cdv A outer s H E vs C => ?_), m, F.kp, kb_of F fun _ _ _ _ _ _ us ws hu hw => match us, ws, hu, hw with | [_, _, _], [], _, _ => rfl, trivial⟩
  have nd := sc__law_numbers.nd
  exact (ss_cons (M1 := [.tape, .frz, .frz, .frz, .dead, .dead]) (st_set (i := 3) (TO.call (io := [some 0, none]) (os := [.sl 0, .tm .frz]) C F__law_draw m__law_draw p__law_draw Z.takes0 k__law_draw.1 (TAs.consS (m := .tape) (pv 0) (TAs.cons (TO.const pe_int fun _ _ => .int _) TAs.nil (fun _ z => nomatch z) rfl))) nd)
        (ss_cons (M1 := [.tape, .frz, .frz, .frz, .dead, .dead]) (st_if (tt_cmp (g := ltD) (ltV C.hK (by have := C.hr.un; omega)) rfl (TO.var (pv 3) rfl) (TO.const pe_int fun _ _ => .int _) (fun _ z => nomatch z) rfl rfl) (ss_last (st_ret (TO.ite (tt_cmp (g := eqD) (eqV C.hK (by have := C.hr.un; omega)) rfl (TO.var (pv 3) rfl) (TO.const pe_int fun _ _ => .int _) (fun _ z => nomatch z) rfl rfl) (TO.bin (g := mulD) (mulV C.hK) (TO.tuple (TAs.cons (TO.const pe_int fun _ _ => .int _) TAs.nil (fun _ z => nomatch z) rfl) (by simp)) (TO.var (pv 2) rfl) (fun _ z => nomatch z) rfl rfl) (TO.bin (g := mulD) (mulV C.hK) (TO.tuple (TAs.cons (TO.bin (g := subD) (subV) (TO.var (pv 1) rfl) (TO.const pe_int fun _ _ => .int _) (fun _ z => nomatch z) rfl rfl) TAs.nil (fun _ z => nomatch z) rfl) (by simp)) (TO.var (pv 2) rfl) (fun _ z => nomatch z) rfl rfl)))) ss_nil)
        (ss_cons (M1 := [.tape, .frz, .frz, .frz, .dead, .dead]) (st_if (PW.pt (tw_and (tt_cmp (g := eqD) (eqV C.hK (by have := C.hr.un; omega)) rfl (TO.var (pv 3) rfl) (TO.const pe_int fun _ _ => .int _) (fun _ z => nomatch z) rfl rfl) (tw_and1 (tt_cmp (g := gtD) (gtV C.hK) rfl (TO.var (pv 2) rfl) (TO.const pe_int fun _ _ => .int _) (fun _ z => nomatch z) rfl rfl)))) (ss_cons (M1 := [.tape, .frz, .frz, .frz, .frz, .dead]) (st_set (i := 4) (TO.call (io := [some 0, none]) (os := [.sl 0, .tm .frz]) C F__law_pick m__law_pick p__law_pick Z.takes0 k__law_pick.1 (TAs.consS (m := .tape) (pv 0) (TAs.cons (TO.freeze (TO.list (TAs.cons (TO.const pe_int fun _ _ => .int _) (TAs.cons (TO.bin (g := subD) (subV) (TO.var (pv 2) rfl) (TO.const pe_int fun _ _ => .int _) (fun _ z => nomatch z) rfl rfl) (TAs.cons (TO.call (io := [some 0, none]) (os := [.sl 0, .tm .frz]) C F__law_draw m__law_draw p__law_draw Z.takes0 k__law_draw.1 (TAs.consS (m := .tape) (pv 0) (TAs.cons (TO.var (pv 2) rfl) TAs.nil (fun _ z => nomatch z) rfl))) TAs.nil (fun _ z => nomatch z) rfl) (fun _ z => nomatch z) rfl) (fun _ z => nomatch z) rfl) (by simp)) rfl) TAs.nil (fun _ z => nomatch z) rfl))) nd)
        (ss_last (st_ret (TO.bin (g := addD) (addV C.hK) (TO.bin (g := addD) (addV C.hK) (TO.bin (g := mulD) (mulV C.hK) (TO.tuple (TAs.cons (TO.const pe_int fun _ _ => .int _) TAs.nil (fun _ z => nomatch z) rfl) (by simp)) (TO.var (pv 4) rfl) (fun _ z => nomatch z) rfl rfl) (TO.tuple (TAs.cons (TO.bin (g := addD) (addV C.hK) (TO.const pe_int fun _ _ => .int _) (TO.call (io := [some 0, none]) (os := [.sl 0, .tm .frz]) C F__law_draw m__law_draw p__law_draw Z.takes0 k__law_draw.1 (TAs.consS (m := .tape) (pv 0) (TAs.cons (TO.bin (g := subD) (subV) (TO.var (pv 1) rfl) (TO.const pe_int fun _ _ => .int _) (fun _ z => nomatch z) rfl rfl) TAs.nil (fun _ z => nomatch z) rfl))) (fun _ z => nomatch z) rfl rfl) TAs.nil (fun _ z => nomatch z) rfl) (by simp)) (fun _ z => nomatch z) rfl rfl) (TO.bin (g := mulD) (mulV C.hK) (TO.tuple (TAs.cons (TO.const pe_int fun _ _ => .int _) TAs.nil (fun _ z => nomatch z) rfl) (by simp)) (TO.bin (g := subD) (subV) (TO.bin (g := subD) (subV) (TO.var (pv 2) rfl) (TO.const pe_int fun _ _ => .int _) (fun _ z => nomatch z) rfl rfl) (TO.var (pv 4) rfl) (fun _ z => nomatch z) rfl rfl) (fun _ z => nomatch z) rfl rfl) (fun _ z => nomatch z) rfl rfl)))) ss_nil)
        (ss_last (st_ret (TO.callT (g := one tupleD) (tupleV C.hK) rfl b_tuple bt_tuple (TAs.cons (TO.comp (own := [(("place" : Str), 5)]) (t := yesF) (fe := e__law_numbers_1) C nd (rng1_post rfl b_range (TAs.cons (TO.var (pv 2) rfl) TAs.nil (fun _ z => nomatch z) rfl)) (by kernel_rfl) (fun _ _ _ _ _ C => (tg_name (i := 5) nd)) (fun _ _ _ _ _ C => ts_nil) (fun _ _ _ _ _ C => (TO.call (io := [some 0, none]) (os := [.sl 0, .tm .frz]) C F__law_draw m__law_draw p__law_draw Z.takes0 k__law_draw.1 (TAs.consS (m := .tape) (pv 0) (TAs.cons (TO.var (pv 1) rfl) TAs.nil (fun _ z => nomatch z) rfl))))) TAs.nil (fun _ z => nomatch z) rfl) rfl (by decide) (by decide) rfl rfl))))))
abbrev N__law_added : List Str := [("p" : Str), ("one" : Str), ("other" : Str), ("number" : Str), ("row" : Str), ("a" : Str), ("b" : Str)]
abbrev s__law_added : Stmt := top 31
theorem sc__law_added : FnScope N__law_added [("p" : Str), ("one" : Str), ("other" : Str), ("number" : Str)] (defScope s__law_added) := ⟨rfl, rfl, rfl, by decide +kernel, rfl, by decide +kernel, by decide +kernel⟩
theorem h__law_added {Pr : Program} {w : PySem.World} {P : Par2} {mg : Str → Option Value} {base : Heap} {f : Addr} {fd : FuncData} (hP : P.tp = tapeP)
    (hs : ∃ o, base.get? sysModules = some o)
    (b_int : mg ("int" : Str) = none)
    (b_len : mg ("len" : Str) = none)
    (b_zip : mg ("zip" : Str) = none)
    (H__law_upper_of : HasD Pr w P mg base 2 ("_law_upper_of" : Str) [("l" : Str), ("row" : Str)] (spT P [.frz, .frz] .frz v__law_upper_of) (fun fd => KB fd [("l" : Str), ("row" : Str)] 2 [] [0, 1] ∧ True))
    (H__law_laid : HasD Pr w P mg base 1 ("_law_laid" : Str) [("upper" : Str)] (spT P [.frz] .frz v__law_laid) (fun fd => KB fd [("upper" : Str)] 1 [] [0] ∧ True))
    (F : FunD P.K ("_law_added" : Str) ("_law_added" : Str) (defArgs s__law_added) (defBody s__law_added) (defScope s__law_added) [] [] f fd)
    (m : mg ("_law_added" : Str) = some (.ref f)) :
    HasD Pr w P mg base 3 ("_law_added" : Str) [("p" : Str), ("one" : Str), ("other" : Str), ("number" : Str)] (spT P [.frz, .frz, .frz, .frz] .frz v__law_added) (fun fd => KB fd [("p" : Str), ("one" : Str), ("other" : Str), ("number" : Str)] 4 [] [0, 1, 2, 3] ∧ True) := by
  obtain ⟨f__law_upper_of, fd__law_upper_of, F__law_upper_of, m__law_upper_of, p__law_upper_of, k__law_upper_of⟩ := H__law_upper_of
  obtain ⟨f__law_laid, fd__law_laid, F__law_laid, m__law_laid, p__law_laid, k__law_laid⟩ := H__law_laid
  refine ⟨f, fd, def0 (k := 2) (ms := [.frz, .frz, .frz, .frz]) (n := 3) (mr := .frz) (c := c__law_added) (Mn := [.dead, .dead, .dead, .dead, .dead, .dead, .dead]) (fun _ => []) F sc__law_added hs rfl rfl hp0 (hio0 rfl) rfl (fun cdv A outer s H E vs C => ?_), m, F.kp, kb_of F fun _ _ _ _ _ _ us ws hu hw => match us, ws, hu, hw with | [_, _, _, _], [], _, _ => rfl, trivial⟩
  have nd := sc__law_added.nd
  exact (ss_cons (M1 := [.frz, .frz, .frz, .frz, (.lst .frz), .dead, .dead]) (st_setC (i := 4) (own := [(("a" : Str), 5), (("b" : Str), 6)]) (t := yesF) (fe := e__law_added_1) C nd (is_zip C rfl b_zip (TAs.cons (TO.call (io := [none]) (os := [.tm .frz]) C F__law_laid m__law_laid p__law_laid Z.takes0 k__law_laid.1 (TAs.cons (TO.var (pv 1) rfl) TAs.nil (fun _ z => nomatch z) rfl)) (TAs.cons (TO.call (io := [none]) (os := [.tm .frz]) C F__law_laid m__law_laid p__law_laid Z.takes0 k__law_laid.1 (TAs.cons (TO.var (pv 2) rfl) TAs.nil (fun _ z => nomatch z) rfl)) TAs.nil (fun _ z => nomatch z) rfl) (fun _ z => nomatch z) rfl)) (by kernel_rfl) (fun _ _ _ _ _ C => (tg_ch (tg_tupP C (tgs_cons (tg_name (i := 5) nd) (tgs_cons (tg_name (i := 6) nd) tgs_nil))))) (fun _ _ _ _ _ C => ts_nil) (fun _ _ _ _ _ C => (TO.bin (g := modD) (modV) (TO.callT (g := one intOfD) (intOfV) rfl b_int bt_int (TAs.cons (TO.bin (g := addD) (addV C.hK) (TO.var (pv 5) rfl) (TO.bin (g := mulD) (mulV C.hK) (TO.var (pv 3) rfl) (TO.var (pv 6) rfl) (fun _ z => nomatch z) rfl rfl) (fun _ z => nomatch z) rfl rfl) TAs.nil (fun _ z => nomatch z) rfl) rfl (by decide) (by decide) rfl rfl) (TO.var (pv 0) rfl) (fun _ z => nomatch z) rfl rfl)))
        (ss_last (st_frz (i := 4) (m := (.lst .frz)) (st_ret (TO.call (io := [none, none]) (os := [.tm .frz, .tm .frz]) C F__law_upper_of m__law_upper_of p__law_upper_of Z.takes0 k__law_upper_of.1 (TAs.cons (TO.callB (g := one lenD) (lenV C.hK) rfl b_len bt_len (TAs.cons (TO.var (pv 1) rfl) TAs.nil (fun _ z => nomatch z) rfl) rfl (by decide) (by decide) rfl rfl) (TAs.cons (TO.var (pv 4) rfl) TAs.nil (fun _ z => nomatch z) rfl) (fun _ z => nomatch z) rfl))))))
abbrev N__law_bad_number : List Str := [("bag" : Str), ("p" : Str)]
abbrev s__law_bad_number : Stmt := top 35
theorem sc__law_bad_number : FnScope N__law_bad_number [("bag" : Str), ("p" : Str)] (defScope s__law_bad_number) := ⟨rfl, rfl, rfl, by decide +kernel, rfl, by decide +kernel, by decide +kernel⟩
theorem h__law_bad_number {Pr : Program} {w : PySem.World} {P : Par2} {mg : Str → Option Value} {base : Heap} {f : Addr} {fd : FuncData} (hP : P.tp = tapeP)
    (hs : ∃ o, base.get? sysModules = some o)
    (H__law_pick : HasD Pr w P mg base 2 ("_law_pick" : Str) [("bag" : Str), ("some" : Str)] (spT P [.tape, .frz] .frz v__law_pick) (fun fd => KB fd [("bag" : Str), ("some" : Str)] 2 [] [0, 1] ∧ True))
    (F : FunD P.K ("_law_bad_number" : Str) ("_law_bad_number" : Str) (defArgs s__law_bad_number) (defBody s__law_bad_number) (defScope s__law_bad_number) [] [] f fd)
    (m : mg ("_law_bad_number" : Str) = some (.ref f)) :
    HasD Pr w P mg base 3 ("_law_bad_number" : Str) [("bag" : Str), ("p" : Str)] (spT P [.tape, .frz] .frz v__law_bad_number) (fun fd => KB fd [("bag" : Str), ("p" : Str)] 2 [] [0, 1] ∧ True) := by
  obtain ⟨f__law_pick, fd__law_pick, F__law_pick, m__law_pick, p__law_pick, k__law_pick⟩ := H__law_pick
  refine ⟨f, fd, def0 (k := 2) (ms := [.tape, .frz]) (n := 0) (mr := .frz) (c := c__law_bad_number) (Mn := [.tape, .dead]) pvFst F sc__law_bad_number hs rfl rfl hp1 (hio1 rfl) rfl (fun cdv A outer s H E vs C => ?_), m, F.kp, kb_of F fun _ _ _ _ _ _ us ws hu hw => match us, ws, hu, hw with | [_, _], [], _, _ => rfl, trivial⟩
  have nd := sc__law_bad_number.nd
  exact (ss_last (st_ret (TO.call (io := [some 0, none]) (os := [.sl 0, .tm .frz]) C F__law_pick m__law_pick p__law_pick Z.takes0 k__law_pick.1 (TAs.consS (m := .tape) (pv 0) (TAs.cons (TO.freeze (TO.list (TAs.cons (TO.var (pv 1) rfl) (TAs.cons (TO.un (g := negD) negV (TO.const pe_int fun _ _ => .int _) rfl) (TAs.cons (TO.const pe_bl fun _ _ => .bl true) (TAs.cons (TO.const pe_bl fun _ _ => .bl false) (TAs.cons (TO.const pe_non fun _ _ => .non) (TAs.cons (TO.const pe_str fun _ _ => .str _) (TAs.cons (TO.tuple (TAs.cons (TO.const pe_int fun _ _ => .int _) TAs.nil (fun _ z => nomatch z) rfl) (by simp)) (TAs.cons (TO.bin (g := powD) (powV) (TO.const pe_int fun _ _ => .int _) (TO.const pe_int fun _ _ => .int _) (fun _ z => nomatch z) rfl rfl) (TAs.cons (TO.freeze (TO.list (TAs.cons (TO.const pe_int fun _ _ => .int _) TAs.nil (fun _ z => nomatch z) rfl) (by simp)) rfl) (TAs.cons (TO.un (g := negD) negV (TO.var (pv 1) rfl) rfl) (TAs.cons (TO.bin (g := addD) (addV C.hK) (TO.var (pv 1) rfl) (TO.const pe_int fun _ _ => .int _) (fun _ z => nomatch z) rfl rfl) (TAs.cons (TO.const pe_str fun _ _ => .str _) (TAs.cons (TO.freeze TO.dict0K rfl) (TAs.cons (TO.tuple TAs.nil (by simp)) TAs.nil (fun _ z => nomatch z) rfl) (fun _ z => nomatch z) rfl) (fun _ z => nomatch z) rfl) (fun _ z => nomatch z) rfl) (fun _ z => nomatch z) rfl) (fun _ z => nomatch z) rfl) (fun _ z => nomatch z) rfl) (fun _ z => nomatch z) rfl) (fun _ z => nomatch z) rfl) (fun _ z => nomatch z) rfl) (fun _ z => nomatch z) rfl) (fun _ z => nomatch z) rfl) (fun _ z => nomatch z) rfl) (fun _ z => nomatch z) rfl) (by simp)) rfl) TAs.nil (fun _ z => nomatch z) rfl)))))
abbrev N__law_upper : List Str := [("bag" : Str), ("p" : Str), ("l" : Str)]
abbrev s__law_upper : Stmt := top 29
theorem sc__law_upper : FnScope N__law_upper [("bag" : Str), ("p" : Str), ("l" : Str)] (defScope s__law_upper) := ⟨rfl, rfl, rfl, by decide +kernel, rfl, by decide +kernel, by decide +kernel⟩
theorem h__law_upper {Pr : Program} {w : PySem.World} {P : Par2} {mg : Str → Option Value} {base : Heap} {f : Addr} {fd : FuncData} (hP : P.tp = tapeP)
    (hs : ∃ o, base.get? sysModules = some o)
    (H__law_upper_of : HasD Pr w P mg base 2 ("_law_upper_of" : Str) [("l" : Str), ("row" : Str)] (spT P [.frz, .frz] .frz v__law_upper_of) (fun fd => KB fd [("l" : Str), ("row" : Str)] 2 [] [0, 1] ∧ True))
    (H__law_numbers : HasD Pr w P mg base 3 ("_law_numbers" : Str) [("bag" : Str), ("p" : Str), ("many" : Str)] (spT P [.tape, .frz, .frz] .frz v__law_numbers) (fun fd => KB fd [("bag" : Str), ("p" : Str), ("many" : Str)] 3 [] [0, 1, 2] ∧ True))
    (F : FunD P.K ("_law_upper" : Str) ("_law_upper" : Str) (defArgs s__law_upper) (defBody s__law_upper) (defScope s__law_upper) [] [] f fd)
    (m : mg ("_law_upper" : Str) = some (.ref f)) :
    HasD Pr w P mg base 4 ("_law_upper" : Str) [("bag" : Str), ("p" : Str), ("l" : Str)] (spT P [.tape, .frz, .frz] .frz v__law_upper) (fun fd => KB fd [("bag" : Str), ("p" : Str), ("l" : Str)] 3 [] [0, 1, 2] ∧ True) := by
  obtain ⟨f__law_upper_of, fd__law_upper_of, F__law_upper_of, m__law_upper_of, p__law_upper_of, k__law_upper_of⟩ := H__law_upper_of
  obtain ⟨f__law_numbers, fd__law_numbers, F__law_numbers, m__law_numbers, p__law_numbers, k__law_numbers⟩ := H__law_numbers
  refine ⟨f, fd, def0 (k := 3) (ms := [.tape, .frz, .frz]) (n := 0) (mr := .frz) (c := c__law_upper) (Mn := [.tape, .dead, .dead]) pvFst F sc__law_upper hs rfl rfl hp1 (hio1 rfl) rfl (fun cdv A outer s H E vs C => ?_), m, F.kp, kb_of F fun _ _ _ _ _ _ us ws hu hw => match us, ws, hu, hw with | [_, _, _], [], _, _ => rfl, trivial⟩
  have nd := sc__law_upper.nd
  exact (ss_last (st_ret (TO.call (io := [none, none]) (os := [.tm .frz, .tm .frz]) C F__law_upper_of m__law_upper_of p__law_upper_of Z.takes0 k__law_upper_of.1 (TAs.cons (TO.var (pv 2) rfl) (TAs.cons (TO.call (io := [some 0, none, none]) (os := [.sl 0, .tm .frz, .tm .frz]) C F__law_numbers m__law_numbers p__law_numbers Z.takes0 k__law_numbers.1 (TAs.consS (m := .tape) (pv 0) (TAs.cons (TO.var (pv 1) rfl) (TAs.cons (TO.bin (g := fdivD) (fdivV) (TO.bin (g := mulD) (mulV C.hK) (TO.var (pv 2) rfl) (TO.bin (g := addD) (addV C.hK) (TO.var (pv 2) rfl) (TO.const pe_int fun _ _ => .int _) (fun _ z => nomatch z) rfl rfl) (fun _ z => nomatch z) rfl rfl) (TO.const pe_int fun _ _ => .int _) (fun _ z => nomatch z) rfl rfl) TAs.nil (fun _ z => nomatch z) rfl) (fun _ z => nomatch z) rfl))) TAs.nil (fun _ z => nomatch z) rfl) (fun _ z => nomatch z) rfl))))
abbrev N__law_bad_row : List Str := [("bag" : Str), ("p" : Str), ("row" : Str), ("way" : Str), ("at" : Str), ("some" : Str)]
abbrev s__law_bad_row : Stmt := top 36
theorem sc__law_bad_row : FnScope N__law_bad_row [("bag" : Str), ("p" : Str), ("row" : Str)] (defScope s__law_bad_row) := ⟨rfl, rfl, rfl, by decide +kernel, rfl, by decide +kernel, by decide +kernel⟩
theorem h__law_bad_row {Pr : Program} {w : PySem.World} {P : Par2} {mg : Str → Option Value} {base : Heap} {f : Addr} {fd : FuncData} (hP : P.tp = tapeP)
    (hs : ∃ o, base.get? sysModules = some o)
    (b_len : mg ("len" : Str) = none)
    (b_list : mg ("list" : Str) = none)
    (H__law_draw : HasD Pr w P mg base 1 ("_law_draw" : Str) [("bag" : Str), ("below" : Str)] (spT P [.tape, .frz] .frz v__law_draw) (fun fd => KB fd [("bag" : Str), ("below" : Str)] 2 [] [0, 1] ∧ True))
    (H__law_pick : HasD Pr w P mg base 2 ("_law_pick" : Str) [("bag" : Str), ("some" : Str)] (spT P [.tape, .frz] .frz v__law_pick) (fun fd => KB fd [("bag" : Str), ("some" : Str)] 2 [] [0, 1] ∧ True))
    (H__law_with : HasD Pr w P mg base 1 ("_law_with" : Str) [("row" : Str), ("at" : Str), ("item" : Str)] (spT P [.frz, .frz, .frz] .frz v__law_with) (fun fd => KB fd [("row" : Str), ("at" : Str), ("item" : Str)] 3 [] [0, 1, 2] ∧ True))
    (H__law_bad_number : HasD Pr w P mg base 3 ("_law_bad_number" : Str) [("bag" : Str), ("p" : Str)] (spT P [.tape, .frz] .frz v__law_bad_number) (fun fd => KB fd [("bag" : Str), ("p" : Str)] 2 [] [0, 1] ∧ True))
    (F : FunD P.K ("_law_bad_row" : Str) ("_law_bad_row" : Str) (defArgs s__law_bad_row) (defBody s__law_bad_row) (defScope s__law_bad_row) [] [] f fd)
    (m : mg ("_law_bad_row" : Str) = some (.ref f)) :
    HasD Pr w P mg base 4 ("_law_bad_row" : Str) [("bag" : Str), ("p" : Str), ("row" : Str)] (spT P [.tape, .frz, .frz] .frz v__law_bad_row) (fun fd => KB fd [("bag" : Str), ("p" : Str), ("row" : Str)] 3 [] [0, 1, 2] ∧ True) := by
  obtain ⟨f__law_draw, fd__law_draw, F__law_draw, m__law_draw, p__law_draw, k__law_draw⟩ := H__law_draw
  obtain ⟨f__law_pick, fd__law_pick, F__law_pick, m__law_pick, p__law_pick, k__law_pick⟩ := H__law_pick
  obtain ⟨f__law_with, fd__law_with, F__law_with, m__law_with, p__law_with, k__law_with⟩ := H__law_with
  obtain ⟨f__law_bad_number, fd__law_bad_number, F__law_bad_number, m__law_bad_number, p__law_bad_number, k__law_bad_number⟩ := H__law_bad_number
  refine ⟨f, fd, def0 (k := 3) (ms := [.tape, .frz, .frz]) (n := 3) (mr := .frz) (c := c__law_bad_row) (Mn := [.tape, .dead, .dead, .dead, .dead, .dead]) pvFst F sc__law_bad_row hs rfl rfl hp1 (hio1 rfl) rfl (fun cdv A outer s H E vs C => ?_), m, F.kp, kb_of F fun _ _ _ _ _ _ us ws hu hw => match us, ws, hu, hw with | [_, _, _], [], _, _ => rfl, trivial⟩
  have nd := sc__law_bad_row.nd
  exact (ss_cons (M1 := [.tape, .frz, .frz, .frz, .dead, .dead]) (st_set (i := 3) (TO.call (io := [some 0, none]) (os := [.sl 0, .tm .frz]) C F__law_draw m__law_draw p__law_draw Z.takes0 k__law_draw.1 (TAs.consS (m := .tape) (pv 0) (TAs.cons (TO.const pe_int fun _ _ => .int _) TAs.nil (fun _ z => nomatch z) rfl))) nd)
        (ss_cons (M1 := [.tape, .frz, .frz, .frz, .dead, .dead]) (st_if (PW.pt (tw_and (tt_cmp (g := ltD) (ltV C.hK (by have := C.hr.un; omega)) rfl (TO.var (pv 3) rfl) (TO.const pe_int fun _ _ => .int _) (fun _ z => nomatch z) rfl rfl) (tw_and1 (tt_cmp (g := neD) (neV C.hK (by have := C.hr.un; omega)) rfl (TO.var (pv 2) rfl) (TO.tuple TAs.nil (by simp)) (fun _ z => nomatch z) rfl rfl)))) (ss_cons (M1 := [.tape, .frz, .frz, .frz, .frz, .dead]) (st_set (i := 4) (TO.call (io := [some 0, none]) (os := [.sl 0, .tm .frz]) C F__law_pick m__law_pick p__law_pick Z.takes0 k__law_pick.1 (TAs.consS (m := .tape) (pv 0) (TAs.cons (TO.freeze (TO.list (TAs.cons (TO.const pe_int fun _ _ => .int _) (TAs.cons (TO.bin (g := subD) (subV) (TO.callB (g := one lenD) (lenV C.hK) rfl b_len bt_len (TAs.cons (TO.var (pv 2) rfl) TAs.nil (fun _ z => nomatch z) rfl) rfl (by decide) (by decide) rfl rfl) (TO.const pe_int fun _ _ => .int _) (fun _ z => nomatch z) rfl rfl) (TAs.cons (TO.call (io := [some 0, none]) (os := [.sl 0, .tm .frz]) C F__law_draw m__law_draw p__law_draw Z.takes0 k__law_draw.1 (TAs.consS (m := .tape) (pv 0) (TAs.cons (TO.callB (g := one lenD) (lenV C.hK) rfl b_len bt_len (TAs.cons (TO.var (pv 2) rfl) TAs.nil (fun _ z => nomatch z) rfl) rfl (by decide) (by decide) rfl rfl) TAs.nil (fun _ z => nomatch z) rfl))) TAs.nil (fun _ z => nomatch z) rfl) (fun _ z => nomatch z) rfl) (fun _ z => nomatch z) rfl) (by simp)) rfl) TAs.nil (fun _ z => nomatch z) rfl))) nd)
        (ss_last (st_ret (TO.call (io := [none, none, none]) (os := [.tm .frz, .tm .frz, .tm .frz]) C F__law_with m__law_with p__law_with Z.takes0 k__law_with.1 (TAs.cons (TO.var (pv 2) rfl) (TAs.cons (TO.var (pv 4) rfl) (TAs.cons (TO.call (io := [some 0, none]) (os := [.sl 0, .tm .frz]) C F__law_bad_number m__law_bad_number p__law_bad_number Z.takes0 k__law_bad_number.1 (TAs.consS (m := .tape) (pv 0) (TAs.cons (TO.var (pv 1) rfl) TAs.nil (fun _ z => nomatch z) rfl))) TAs.nil (fun _ z => nomatch z) rfl) (fun _ z => nomatch z) rfl) (fun _ z => nomatch z) rfl))))) ss_nil)
        (ss_cons (M1 := [.tape, .frz, .frz, .frz, .dead, .frz]) (st_set (i := 5) (TO.freeze (TO.list (TAs.cons (TO.bin (g := addD) (addV C.hK) (TO.var (pv 2) rfl) (TO.tuple (TAs.cons (TO.const pe_int fun _ _ => .int _) TAs.nil (fun _ z => nomatch z) rfl) (by simp)) (fun _ z => nomatch z) rfl rfl) (TAs.cons (TO.ite (tt_cmp (g := neD) (neV C.hK (by have := C.hr.un; omega)) rfl (TO.var (pv 2) rfl) (TO.tuple TAs.nil (by simp)) (fun _ z => nomatch z) rfl rfl) (TO.sli C.hK (TO.var (pv 2) rfl) (tpart_some (TO.const pe_int fun _ _ => .int _)) tpart_none (fun _ z => nomatch z) rfl) (TO.tuple (TAs.cons (TO.const pe_int fun _ _ => .int _) TAs.nil (fun _ z => nomatch z) rfl) (by simp))) (TAs.cons (TO.freeze (TO.callT (g := one listD) (listV C.hK) rfl b_list bt_list (TAs.cons (TO.var (pv 2) rfl) TAs.nil (fun _ z => nomatch z) rfl) rfl (by decide) (by decide) rfl rfl) rfl) (TAs.cons (TO.const pe_non fun _ _ => .non) (TAs.cons (TO.const pe_int fun _ _ => .int _) (TAs.cons (TO.bin (g := mulD) (mulV C.hK) (TO.const pe_str fun _ _ => .str _) (TO.callB (g := one lenD) (lenV C.hK) rfl b_len bt_len (TAs.cons (TO.var (pv 2) rfl) TAs.nil (fun _ z => nomatch z) rfl) rfl (by decide) (by decide) rfl rfl) (fun _ z => nomatch z) rfl rfl) (TAs.cons (TO.freeze TO.dict0K rfl) (TAs.cons (TO.tuple (TAs.cons (TO.var (pv 2) rfl) TAs.nil (fun _ z => nomatch z) rfl) (by simp)) (TAs.cons (TO.bin (g := addD) (addV C.hK) (TO.var (pv 2) rfl) (TO.tuple (TAs.cons (TO.const pe_non fun _ _ => .non) TAs.nil (fun _ z => nomatch z) rfl) (by simp)) (fun _ z => nomatch z) rfl rfl) TAs.nil (fun _ z => nomatch z) rfl) (fun _ z => nomatch z) rfl) (fun _ z => nomatch z) rfl) (fun _ z => nomatch z) rfl) (fun _ z => nomatch z) rfl) (fun _ z => nomatch z) rfl) (fun _ z => nomatch z) rfl) (fun _ z => nomatch z) rfl) (fun _ z => nomatch z) rfl) (by simp)) rfl) nd)
        (ss_last (st_ret (TO.call (io := [some 0, none]) (os := [.sl 0, .tm .frz]) C F__law_pick m__law_pick p__law_pick Z.takes0 k__law_pick.1 (TAs.consS (m := .tape) (pv 0) (TAs.cons (TO.var (pv 5) rfl) TAs.nil (fun _ z => nomatch z) rfl))))))))
abbrev N__law_are_sums_right : List Str := [("bag" : Str), ("p" : Str), ("l" : Str), ("one" : Str), ("other" : Str), ("number" : Str), ("due" : Str), ("back" : Str), ("told" : Str), ("none" : Str), ("v" : Str)]
abbrev s__law_are_sums_right : Stmt := top 41
theorem sc__law_are_sums_right : FnScope N__law_are_sums_right [("bag" : Str), ("p" : Str), ("l" : Str), ("one" : Str), ("other" : Str)] (defScope s__law_are_sums_right) := ⟨rfl, rfl, rfl, by decide +kernel, rfl, by decide +kernel, by decide +kernel⟩
theorem h__law_are_sums_right {Pr : Program} {w : PySem.World} {P : Par2} {mg : Str → Option Value} {base : Heap} {f : Addr} {fd : FuncData} (hP : P.tp = tapeP)
    (hs : ∃ o, base.get? sysModules = some o)
    (H__law_pick : HasD Pr w P mg base 2 ("_law_pick" : Str) [("bag" : Str), ("some" : Str)] (spT P [.tape, .frz] .frz v__law_pick) (fun fd => KB fd [("bag" : Str), ("some" : Str)] 2 [] [0, 1] ∧ True))
    (H__law_upper_of : HasD Pr w P mg base 2 ("_law_upper_of" : Str) [("l" : Str), ("row" : Str)] (spT P [.frz, .frz] .frz v__law_upper_of) (fun fd => KB fd [("l" : Str), ("row" : Str)] 2 [] [0, 1] ∧ True))
    (H__law_added : HasD Pr w P mg base 3 ("_law_added" : Str) [("p" : Str), ("one" : Str), ("other" : Str), ("number" : Str)] (spT P [.frz, .frz, .frz, .frz] .frz v__law_added) (fun fd => KB fd [("p" : Str), ("one" : Str), ("other" : Str), ("number" : Str)] 4 [] [0, 1, 2, 3] ∧ True))
    (H__law_draw : HasD Pr w P mg base 1 ("_law_draw" : Str) [("bag" : Str), ("below" : Str)] (spT P [.tape, .frz] .frz v__law_draw) (fun fd => KB fd [("bag" : Str), ("below" : Str)] 2 [] [0, 1] ∧ True))
    (H__law_with : HasD Pr w P mg base 1 ("_law_with" : Str) [("row" : Str), ("at" : Str), ("item" : Str)] (spT P [.frz, .frz, .frz] .frz v__law_with) (fun fd => KB fd [("row" : Str), ("at" : Str), ("item" : Str)] 3 [] [0, 1, 2] ∧ True))
    (H__law_same : HasD Pr w P mg base 1 ("_law_same" : Str) [("told" : Str), ("due" : Str)] (spT P [.frz, .frz] .frz v__law_same) (fun fd => KB fd [("told" : Str), ("due" : Str)] 2 [] [0, 1] ∧ True))
    (H_uppers_added : HasD Pr w P mg base 1 ("uppers_added" : Str) [("p" : Str), ("one" : Str), ("other" : Str)] (spT P [.frz, .frz, .frz] .frz v_uppers_added) (fun fd => KB fd [("p" : Str), ("one" : Str), ("other" : Str)] 3 [] [0, 1, 2] ∧ KB fd [("p" : Str), ("one" : Str), ("other" : Str)] 0 [("other" : Str), ("one" : Str), ("p" : Str)] [2, 1, 0] ∧ True))
    (H_uppers_scaled : HasD Pr w P mg base 1 ("uppers_scaled" : Str) [("p" : Str), ("number" : Str), ("upper" : Str)] (spT P [.frz, .frz, .frz] .frz v_uppers_scaled) (fun fd => KB fd [("p" : Str), ("number" : Str), ("upper" : Str)] 3 [] [0, 1, 2] ∧ KB fd [("p" : Str), ("number" : Str), ("upper" : Str)] 0 [("upper" : Str), ("number" : Str), ("p" : Str)] [2, 1, 0] ∧ True))
    (H_plain_upper : HasD Pr w P mg base 1 ("plain_upper" : Str) [("p" : Str), ("l" : Str), ("v" : Str)] (spT P [.frz, .frz, .frz] .frz v_plain_upper) (fun fd => KB fd [("p" : Str), ("l" : Str), ("v" : Str)] 3 [] [0, 1, 2] ∧ KB fd [("p" : Str), ("l" : Str), ("v" : Str)] 0 [("v" : Str), ("l" : Str), ("p" : Str)] [2, 1, 0] ∧ True))
    (F : FunD P.K ("_law_are_sums_right" : Str) ("_law_are_sums_right" : Str) (defArgs s__law_are_sums_right) (defBody s__law_are_sums_right) (defScope s__law_are_sums_right) [] [] f fd)
    (m : mg ("_law_are_sums_right" : Str) = some (.ref f)) :
    HasD Pr w P mg base 4 ("_law_are_sums_right" : Str) [("bag" : Str), ("p" : Str), ("l" : Str), ("one" : Str), ("other" : Str)] (spT P [.tape, .frz, .frz, .frz, .frz] .frz v__law_are_sums_right) (fun fd => KB fd [("bag" : Str), ("p" : Str), ("l" : Str), ("one" : Str), ("other" : Str)] 5 [] [0, 1, 2, 3, 4] ∧ True) := by
  obtain ⟨f__law_pick, fd__law_pick, F__law_pick, m__law_pick, p__law_pick, k__law_pick⟩ := H__law_pick
  obtain ⟨f__law_upper_of, fd__law_upper_of, F__law_upper_of, m__law_upper_of, p__law_upper_of, k__law_upper_of⟩ := H__law_upper_of
  obtain ⟨f__law_added, fd__law_added, F__law_added, m__law_added, p__law_added, k__law_added⟩ := H__law_added
  obtain ⟨f__law_draw, fd__law_draw, F__law_draw, m__law_draw, p__law_draw, k__law_draw⟩ := H__law_draw
  obtain ⟨f__law_with, fd__law_with, F__law_with, m__law_with, p__law_with, k__law_with⟩ := H__law_with
  obtain ⟨f__law_same, fd__law_same, F__law_same, m__law_same, p__law_same, k__law_same⟩ := H__law_same
  obtain ⟨f_uppers_added, fd_uppers_added, F_uppers_added, m_uppers_added, p_uppers_added, k_uppers_added⟩ := H_uppers_added
  obtain ⟨f_uppers_scaled, fd_uppers_scaled, F_uppers_scaled, m_uppers_scaled, p_uppers_scaled, k_uppers_scaled⟩ := H_uppers_scaled
  obtain ⟨f_plain_upper, fd_plain_upper, F_plain_upper, m_plain_upper, p_plain_upper, k_plain_upper⟩ := H_plain_upper
  refine ⟨f, fd, def0 (k := 3) (ms := [.tape, .frz, .frz, .frz, .frz]) (n := 6) (mr := .frz) (c := c__law_are_sums_right) (Mn := [.tape, .dead, .dead, .dead, .dead, .dead, .dead, .dead, .dead, .dead, .dead]) pvFst F sc__law_are_sums_right hs rfl rfl hp1 (hio1 rfl) rfl (fun cdv A outer s H E vs C => ?_), m, F.kp, kb_of F fun _ _ _ _ _ _ us ws hu hw => match us, ws, hu, hw with | [_, _, _, _, _], [], _, _ => rfl, trivial⟩
  have nd := sc__law_are_sums_right.nd
  exact (ss_cons (M1 := [.tape, .frz, .frz, .frz, .frz, .frz, .dead, .dead, .dead, .dead, .dead]) (st_set (i := 5) (TO.call (io := [some 0, none]) (os := [.sl 0, .tm .frz]) C F__law_pick m__law_pick p__law_pick Z.takes0 k__law_pick.1 (TAs.consS (m := .tape) (pv 0) (TAs.cons (TO.freeze (TO.list (TAs.cons (TO.const pe_int fun _ _ => .int _) (TAs.cons (TO.const pe_int fun _ _ => .int _) (TAs.cons (TO.bin (g := subD) (subV) (TO.var (pv 1) rfl) (TO.const pe_int fun _ _ => .int _) (fun _ z => nomatch z) rfl rfl) (TAs.cons (TO.call (io := [some 0, none]) (os := [.sl 0, .tm .frz]) C F__law_draw m__law_draw p__law_draw Z.takes0 k__law_draw.1 (TAs.consS (m := .tape) (pv 0) (TAs.cons (TO.var (pv 1) rfl) TAs.nil (fun _ z => nomatch z) rfl))) TAs.nil (fun _ z => nomatch z) rfl) (fun _ z => nomatch z) rfl) (fun _ z => nomatch z) rfl) (fun _ z => nomatch z) rfl) (by simp)) rfl) TAs.nil (fun _ z => nomatch z) rfl))) nd)
        (ss_cons (M1 := [.tape, .frz, .frz, .frz, .frz, .frz, .frz, .frz, .dead, .dead, .dead]) (st_par2 (i := 6) (j := 7) C nd (TAs.cons (TO.call (io := [none, none, none, none]) (os := [.tm .frz, .tm .frz, .tm .frz, .tm .frz]) C F__law_added m__law_added p__law_added Z.takes0 k__law_added.1 (TAs.cons (TO.var (pv 1) rfl) (TAs.cons (TO.var (pv 3) rfl) (TAs.cons (TO.var (pv 4) rfl) (TAs.cons (TO.const pe_int fun _ _ => .int _) TAs.nil (fun _ z => nomatch z) rfl) (fun _ z => nomatch z) rfl) (fun _ z => nomatch z) rfl) (fun _ z => nomatch z) rfl)) (TAs.cons (TO.call (io := [none, none, none, none]) (os := [.tm .frz, .tm .frz, .tm .frz, .tm .frz]) C F__law_added m__law_added p__law_added Z.takes0 k__law_added.1 (TAs.cons (TO.var (pv 1) rfl) (TAs.cons (TO.var (pv 4) rfl) (TAs.cons (TO.var (pv 3) rfl) (TAs.cons (TO.const pe_int fun _ _ => .int _) TAs.nil (fun _ z => nomatch z) rfl) (fun _ z => nomatch z) rfl) (fun _ z => nomatch z) rfl) (fun _ z => nomatch z) rfl)) TAs.nil (fun _ z => nomatch z) rfl) (fun _ z => nomatch z) rfl))
        (ss_cons (M1 := [.tape, .frz, .frz, .frz, .frz, .frz, .frz, .frz, .frz, .dead, .dead]) (st_set (i := 8) (TO.freeze (TO.list (TAs.cons (TO.call (io := [none, none, none]) (os := [.tm .frz, .tm .frz, .tm .frz]) C F_uppers_added m_uppers_added p_uppers_added Z.takes0 k_uppers_added.1 (TAs.cons (TO.var (pv 1) rfl) (TAs.cons (TO.var (pv 3) rfl) (TAs.cons (TO.var (pv 4) rfl) TAs.nil (fun _ z => nomatch z) rfl) (fun _ z => nomatch z) rfl) (fun _ z => nomatch z) rfl)) (TAs.cons (TO.callK0 (io := [none, none, none]) (ok := [.tm .frz, .tm .frz, .tm .frz]) C F_uppers_added m_uppers_added p_uppers_added Z.takes0 k_uppers_added.2.1 (TKs.cons (TO.var (pv 4) rfl) (TKs.cons (TO.var (pv 3) rfl) (TKs.cons (TO.var (pv 1) rfl) TKs.nil (fun _ z => nomatch z)) (fun _ z => nomatch z)) (fun _ z => nomatch z))) (TAs.cons (TO.call (io := [none, none, none]) (os := [.tm .frz, .tm .frz, .tm .frz]) C F_uppers_added m_uppers_added p_uppers_added Z.takes0 k_uppers_added.1 (TAs.cons (TO.var (pv 1) rfl) (TAs.cons (TO.var (pv 4) rfl) (TAs.cons (TO.var (pv 3) rfl) TAs.nil (fun _ z => nomatch z) rfl) (fun _ z => nomatch z) rfl) (fun _ z => nomatch z) rfl)) TAs.nil (fun _ z => nomatch z) rfl) (fun _ z => nomatch z) rfl) (fun _ z => nomatch z) rfl) (by simp)) rfl) nd)
        (ss_cons (M1 := [.tape, .frz, .frz, .frz, .frz, .frz, .frz, .frz, .frz, .dead, .dead]) (st_if (PW.pt (tw_or (tt_not (tt_val (TO.call (io := [none, none]) (os := [.tm .frz, .tm .frz]) C F__law_same m__law_same p__law_same Z.takes0 k__law_same.1 (TAs.cons (TO.var (pv 8) rfl) (TAs.cons (TO.freeze (TO.list (TAs.cons (TO.var (pv 6) rfl) (TAs.cons (TO.var (pv 6) rfl) (TAs.cons (TO.var (pv 7) rfl) TAs.nil (fun _ z => nomatch z) rfl) (fun _ z => nomatch z) rfl) (fun _ z => nomatch z) rfl) (by simp)) rfl) TAs.nil (fun _ z => nomatch z) rfl) (fun _ z => nomatch z) rfl)) fun _ => rfl)) (tw_or1 (tt_not (tt_val (TO.call (io := [none, none]) (os := [.tm .frz, .tm .frz]) C F__law_same m__law_same p__law_same Z.takes0 k__law_same.1 (TAs.cons (TO.var (pv 6) rfl) (TAs.cons (TO.var (pv 7) rfl) TAs.nil (fun _ z => nomatch z) rfl) (fun _ z => nomatch z) rfl)) fun _ => rfl))))) (ss_last (st_ret (TO.const pe_bl fun _ _ => .bl false))) ss_nil)
        (ss_cons (M1 := [.tape, .frz, .frz, .frz, .frz, .frz, .frz, .frz, .frz, .frz, .dead]) (st_set (i := 9) (TO.call (io := [none, none]) (os := [.tm .frz, .tm .frz]) C F__law_upper_of m__law_upper_of p__law_upper_of Z.takes0 k__law_upper_of.1 (TAs.cons (TO.var (pv 2) rfl) (TAs.cons (TO.bin (g := mulD) (mulV C.hK) (TO.tuple (TAs.cons (TO.const pe_int fun _ _ => .int _) TAs.nil (fun _ z => nomatch z) rfl) (by simp)) (TO.bin (g := fdivD) (fdivV) (TO.bin (g := mulD) (mulV C.hK) (TO.var (pv 2) rfl) (TO.bin (g := addD) (addV C.hK) (TO.var (pv 2) rfl) (TO.const pe_int fun _ _ => .int _) (fun _ z => nomatch z) rfl rfl) (fun _ z => nomatch z) rfl rfl) (TO.const pe_int fun _ _ => .int _) (fun _ z => nomatch z) rfl rfl) (fun _ z => nomatch z) rfl rfl) TAs.nil (fun _ z => nomatch z) rfl) (fun _ z => nomatch z) rfl)) nd)
        (ss_cons (M1 := [.tape, .frz, .frz, .frz, .frz, .frz, .frz, .frz, .frz, .frz, .dead]) (st_set (i := 6) (TO.call (io := [none, none, none, none]) (os := [.tm .frz, .tm .frz, .tm .frz, .tm .frz]) C F__law_added m__law_added p__law_added Z.takes0 k__law_added.1 (TAs.cons (TO.var (pv 1) rfl) (TAs.cons (TO.var (pv 9) rfl) (TAs.cons (TO.var (pv 3) rfl) (TAs.cons (TO.var (pv 5) rfl) TAs.nil (fun _ z => nomatch z) rfl) (fun _ z => nomatch z) rfl) (fun _ z => nomatch z) rfl) (fun _ z => nomatch z) rfl)) nd)
        (ss_cons (M1 := [.tape, .frz, .frz, .frz, .frz, .frz, .frz, .frz, .frz, .frz, .dead]) (st_set (i := 8) (TO.freeze (TO.list (TAs.cons (TO.call (io := [none, none, none]) (os := [.tm .frz, .tm .frz, .tm .frz]) C F_uppers_scaled m_uppers_scaled p_uppers_scaled Z.takes0 k_uppers_scaled.1 (TAs.cons (TO.var (pv 1) rfl) (TAs.cons (TO.var (pv 5) rfl) (TAs.cons (TO.var (pv 3) rfl) TAs.nil (fun _ z => nomatch z) rfl) (fun _ z => nomatch z) rfl) (fun _ z => nomatch z) rfl)) (TAs.cons (TO.callK0 (io := [none, none, none]) (ok := [.tm .frz, .tm .frz, .tm .frz]) C F_uppers_scaled m_uppers_scaled p_uppers_scaled Z.takes0 k_uppers_scaled.2.1 (TKs.cons (TO.var (pv 3) rfl) (TKs.cons (TO.var (pv 5) rfl) (TKs.cons (TO.var (pv 1) rfl) TKs.nil (fun _ z => nomatch z)) (fun _ z => nomatch z)) (fun _ z => nomatch z))) TAs.nil (fun _ z => nomatch z) rfl) (fun _ z => nomatch z) rfl) (by simp)) rfl) nd)
        (ss_cons (M1 := [.tape, .frz, .frz, .frz, .frz, .frz, .frz, .frz, .frz, .frz, .dead]) (st_if (PW.pt (tw_or (tt_not (tt_val (TO.call (io := [none, none]) (os := [.tm .frz, .tm .frz]) C F__law_same m__law_same p__law_same Z.takes0 k__law_same.1 (TAs.cons (TO.var (pv 8) rfl) (TAs.cons (TO.freeze (TO.list (TAs.cons (TO.var (pv 6) rfl) (TAs.cons (TO.var (pv 6) rfl) TAs.nil (fun _ z => nomatch z) rfl) (fun _ z => nomatch z) rfl) (by simp)) rfl) TAs.nil (fun _ z => nomatch z) rfl) (fun _ z => nomatch z) rfl)) fun _ => rfl)) (tw_or1 (tt_not (tt_val (TO.call (io := [none, none]) (os := [.tm .frz, .tm .frz]) C F__law_same m__law_same p__law_same Z.takes0 k__law_same.1 (TAs.cons (TO.call (io := [none, none, none]) (os := [.tm .frz, .tm .frz, .tm .frz]) C F_uppers_scaled m_uppers_scaled p_uppers_scaled Z.takes0 k_uppers_scaled.1 (TAs.cons (TO.var (pv 1) rfl) (TAs.cons (TO.const pe_int fun _ _ => .int _) (TAs.cons (TO.var (pv 4) rfl) TAs.nil (fun _ z => nomatch z) rfl) (fun _ z => nomatch z) rfl) (fun _ z => nomatch z) rfl)) (TAs.cons (TO.var (pv 9) rfl) TAs.nil (fun _ z => nomatch z) rfl) (fun _ z => nomatch z) rfl)) fun _ => rfl))))) (ss_last (st_ret (TO.const pe_bl fun _ _ => .bl false))) ss_nil)
        (ss_cons (M1 := [.tape, .frz, .frz, .frz, .frz, .frz, .frz, .frz, .frz, .frz, .dead]) (st_if (tt_not (tt_val (TO.call (io := [none, none]) (os := [.tm .frz, .tm .frz]) C F__law_same m__law_same p__law_same Z.takes0 k__law_same.1 (TAs.cons (TO.call (io := [none, none, none]) (os := [.tm .frz, .tm .frz, .tm .frz]) C F_uppers_added m_uppers_added p_uppers_added Z.takes0 k_uppers_added.1 (TAs.cons (TO.var (pv 1) rfl) (TAs.cons (TO.var (pv 3) rfl) (TAs.cons (TO.call (io := [none, none, none]) (os := [.tm .frz, .tm .frz, .tm .frz]) C F_uppers_scaled m_uppers_scaled p_uppers_scaled Z.takes0 k_uppers_scaled.1 (TAs.cons (TO.var (pv 1) rfl) (TAs.cons (TO.bin (g := subD) (subV) (TO.var (pv 1) rfl) (TO.const pe_int fun _ _ => .int _) (fun _ z => nomatch z) rfl rfl) (TAs.cons (TO.var (pv 3) rfl) TAs.nil (fun _ z => nomatch z) rfl) (fun _ z => nomatch z) rfl) (fun _ z => nomatch z) rfl)) TAs.nil (fun _ z => nomatch z) rfl) (fun _ z => nomatch z) rfl) (fun _ z => nomatch z) rfl)) (TAs.cons (TO.var (pv 9) rfl) TAs.nil (fun _ z => nomatch z) rfl) (fun _ z => nomatch z) rfl)) fun _ => rfl)) (ss_last (st_ret (TO.const pe_bl fun _ _ => .bl false))) ss_nil)
        (ss_cons (M1 := [.tape, .frz, .frz, .frz, .frz, .frz, .frz, .frz, .frz, .frz, .frz]) (st_set (i := 10) (TO.call (io := [some 0, none]) (os := [.sl 0, .tm .frz]) C F__law_draw m__law_draw p__law_draw Z.takes0 k__law_draw.1 (TAs.consS (m := .tape) (pv 0) (TAs.cons (TO.var (pv 1) rfl) TAs.nil (fun _ z => nomatch z) rfl))) nd)
        (ss_cons (M1 := [.tape, .frz, .frz, .frz, .frz, .frz, .frz, .frz, .frz, .frz, .frz]) (st_set (i := 6) (TO.call (io := [none, none, none]) (os := [.tm .frz, .tm .frz, .tm .frz]) C F__law_with m__law_with p__law_with Z.takes0 k__law_with.1 (TAs.cons (TO.var (pv 9) rfl) (TAs.cons (TO.const pe_int fun _ _ => .int _) (TAs.cons (TO.bin (g := addD) (addV C.hK) (TO.bin (g := mulD) (mulV C.hK) (TO.tuple (TAs.cons (TO.const pe_int fun _ _ => .int _) TAs.nil (fun _ z => nomatch z) rfl) (by simp)) (TO.bin (g := subD) (subV) (TO.var (pv 2) rfl) (TO.const pe_int fun _ _ => .int _) (fun _ z => nomatch z) rfl rfl) (fun _ z => nomatch z) rfl rfl) (TO.tuple (TAs.cons (TO.var (pv 10) rfl) TAs.nil (fun _ z => nomatch z) rfl) (by simp)) (fun _ z => nomatch z) rfl rfl) TAs.nil (fun _ z => nomatch z) rfl) (fun _ z => nomatch z) rfl) (fun _ z => nomatch z) rfl)) nd)
        (ss_last (st_ret (TO.call (io := [none, none]) (os := [.tm .frz, .tm .frz]) C F__law_same m__law_same p__law_same Z.takes0 k__law_same.1 (TAs.cons (TO.freeze (TO.list (TAs.cons (TO.call (io := [none, none, none]) (os := [.tm .frz, .tm .frz, .tm .frz]) C F_plain_upper m_plain_upper p_plain_upper Z.takes0 k_plain_upper.1 (TAs.cons (TO.var (pv 1) rfl) (TAs.cons (TO.var (pv 2) rfl) (TAs.cons (TO.var (pv 10) rfl) TAs.nil (fun _ z => nomatch z) rfl) (fun _ z => nomatch z) rfl) (fun _ z => nomatch z) rfl)) (TAs.cons (TO.callK0 (io := [none, none, none]) (ok := [.tm .frz, .tm .frz, .tm .frz]) C F_plain_upper m_plain_upper p_plain_upper Z.takes0 k_plain_upper.2.1 (TKs.cons (TO.var (pv 10) rfl) (TKs.cons (TO.var (pv 2) rfl) (TKs.cons (TO.var (pv 1) rfl) TKs.nil (fun _ z => nomatch z)) (fun _ z => nomatch z)) (fun _ z => nomatch z))) TAs.nil (fun _ z => nomatch z) rfl) (fun _ z => nomatch z) rfl) (by simp)) rfl) (TAs.cons (TO.freeze (TO.list (TAs.cons (TO.var (pv 6) rfl) (TAs.cons (TO.var (pv 6) rfl) TAs.nil (fun _ z => nomatch z) rfl) (fun _ z => nomatch z) rfl) (by simp)) rfl) TAs.nil (fun _ z => nomatch z) rfl) (fun _ z => nomatch z) rfl)))))))))))))))
abbrev N__law_are_places_right : List Str := [("bag" : Str), ("p" : Str), ("l" : Str), ("upper" : Str), ("many" : Str), ("laid" : Str), ("told" : Str), ("number" : Str), ("spots" : Str), ("place" : Str), ("due" : Str)]
abbrev s__law_are_places_right : Stmt := top 42
theorem sc__law_are_places_right : FnScope N__law_are_places_right [("bag" : Str), ("p" : Str), ("l" : Str), ("upper" : Str)] (defScope s__law_are_places_right) := ⟨rfl, rfl, rfl, by decide +kernel, rfl, by decide +kernel, by decide +kernel⟩
theorem h__law_are_places_right {Pr : Program} {w : PySem.World} {P : Par2} {mg : Str → Option Value} {base : Heap} {f : Addr} {fd : FuncData} (hP : P.tp = tapeP)
    (hs : ∃ o, base.get? sysModules = some o)
    (b_min : mg ("min" : Str) = none)
    (H__law_power : HasD Pr w P mg base 1 ("_law_power" : Str) [("p" : Str), ("many" : Str)] (spT P [.frz, .frz] .frz v__law_power) (fun fd => KB fd [("p" : Str), ("many" : Str)] 2 [] [0, 1] ∧ True))
    (H__law_laid : HasD Pr w P mg base 1 ("_law_laid" : Str) [("upper" : Str)] (spT P [.frz] .frz v__law_laid) (fun fd => KB fd [("upper" : Str)] 1 [] [0] ∧ True))
    (H_laid_upper : HasD Pr w P mg base 1 ("laid_upper" : Str) [("upper" : Str)] (spT P [.frz] .frz v_laid_upper) (fun fd => KB fd [("upper" : Str)] 1 [] [0] ∧ KB fd [("upper" : Str)] 0 [("upper" : Str)] [0] ∧ True))
    (H_upper_of_laid : HasD Pr w P mg base 1 ("upper_of_laid" : Str) [("l" : Str), ("row" : Str)] (spT P [.frz, .frz] .frz v_upper_of_laid) (fun fd => KB fd [("l" : Str), ("row" : Str)] 2 [] [0, 1] ∧ KB fd [("l" : Str), ("row" : Str)] 0 [("row" : Str), ("l" : Str)] [1, 0] ∧ True))
    (H__law_same : HasD Pr w P mg base 1 ("_law_same" : Str) [("told" : Str), ("due" : Str)] (spT P [.frz, .frz] .frz v__law_same) (fun fd => KB fd [("told" : Str), ("due" : Str)] 2 [] [0, 1] ∧ True))
    (H__law_place : HasD Pr w P mg base 1 ("_law_place" : Str) [("p" : Str), ("row" : Str)] (spT P [.frz, .frz] .frz v__law_place) (fun fd => KB fd [("p" : Str), ("row" : Str)] 2 [] [0, 1] ∧ True))
    (H__law_upper_of : HasD Pr w P mg base 2 ("_law_upper_of" : Str) [("l" : Str), ("row" : Str)] (spT P [.frz, .frz] .frz v__law_upper_of) (fun fd => KB fd [("l" : Str), ("row" : Str)] 2 [] [0, 1] ∧ True))
    (H_uppers_number : HasD Pr w P mg base 2 ("uppers_number" : Str) [("p" : Str), ("l" : Str)] (spT P [.frz, .frz] .frz v_uppers_number) (fun fd => KB fd [("p" : Str), ("l" : Str)] 2 [] [0, 1] ∧ KB fd [("p" : Str), ("l" : Str)] 0 [("l" : Str), ("p" : Str)] [1, 0] ∧ True))
    (H__law_numbers : HasD Pr w P mg base 3 ("_law_numbers" : Str) [("bag" : Str), ("p" : Str), ("many" : Str)] (spT P [.tape, .frz, .frz] .frz v__law_numbers) (fun fd => KB fd [("bag" : Str), ("p" : Str), ("many" : Str)] 3 [] [0, 1, 2] ∧ True))
    (H__law_digits : HasD Pr w P mg base 1 ("_law_digits" : Str) [("p" : Str), ("many" : Str), ("place" : Str)] (spT P [.frz, .frz, .frz] .frz v__law_digits) (fun fd => KB fd [("p" : Str), ("many" : Str), ("place" : Str)] 3 [] [0, 1, 2] ∧ True))
    (H_upper_at : HasD Pr w P mg base 2 ("upper_at" : Str) [("p" : Str), ("l" : Str), ("place" : Str)] (spT P [.frz, .frz, .frz] .frz v_upper_at) (fun fd => KB fd [("p" : Str), ("l" : Str), ("place" : Str)] 3 [] [0, 1, 2] ∧ KB fd [("p" : Str), ("l" : Str), ("place" : Str)] 0 [("place" : Str), ("l" : Str), ("p" : Str)] [2, 1, 0] ∧ True))
    (H_upper_place : HasD Pr w P mg base 2 ("upper_place" : Str) [("p" : Str), ("upper" : Str)] (spT P [.frz, .frz] .frz v_upper_place) (fun fd => KB fd [("p" : Str), ("upper" : Str)] 2 [] [0, 1] ∧ KB fd [("p" : Str), ("upper" : Str)] 0 [("upper" : Str), ("p" : Str)] [1, 0] ∧ True))
    (H__law_draw : HasD Pr w P mg base 1 ("_law_draw" : Str) [("bag" : Str), ("below" : Str)] (spT P [.tape, .frz] .frz v__law_draw) (fun fd => KB fd [("bag" : Str), ("below" : Str)] 2 [] [0, 1] ∧ True))
    (F : FunD P.K ("_law_are_places_right" : Str) ("_law_are_places_right" : Str) (defArgs s__law_are_places_right) (defBody s__law_are_places_right) (defScope s__law_are_places_right) [] [] f fd)
    (m : mg ("_law_are_places_right" : Str) = some (.ref f)) :
    HasD Pr w P mg base 4 ("_law_are_places_right" : Str) [("bag" : Str), ("p" : Str), ("l" : Str), ("upper" : Str)] (spT P [.tape, .frz, .frz, .frz] .frz v__law_are_places_right) (fun fd => KB fd [("bag" : Str), ("p" : Str), ("l" : Str), ("upper" : Str)] 4 [] [0, 1, 2, 3] ∧ True) := by
  obtain ⟨f__law_power, fd__law_power, F__law_power, m__law_power, p__law_power, k__law_power⟩ := H__law_power
  obtain ⟨f__law_laid, fd__law_laid, F__law_laid, m__law_laid, p__law_laid, k__law_laid⟩ := H__law_laid
  obtain ⟨f_laid_upper, fd_laid_upper, F_laid_upper, m_laid_upper, p_laid_upper, k_laid_upper⟩ := H_laid_upper
  obtain ⟨f_upper_of_laid, fd_upper_of_laid, F_upper_of_laid, m_upper_of_laid, p_upper_of_laid, k_upper_of_laid⟩ := H_upper_of_laid
  obtain ⟨f__law_same, fd__law_same, F__law_same, m__law_same, p__law_same, k__law_same⟩ := H__law_same
  obtain ⟨f__law_place, fd__law_place, F__law_place, m__law_place, p__law_place, k__law_place⟩ := H__law_place
  obtain ⟨f__law_upper_of, fd__law_upper_of, F__law_upper_of, m__law_upper_of, p__law_upper_of, k__law_upper_of⟩ := H__law_upper_of
  obtain ⟨f_uppers_number, fd_uppers_number, F_uppers_number, m_uppers_number, p_uppers_number, k_uppers_number⟩ := H_uppers_number
  obtain ⟨f__law_numbers, fd__law_numbers, F__law_numbers, m__law_numbers, p__law_numbers, k__law_numbers⟩ := H__law_numbers
  obtain ⟨f__law_digits, fd__law_digits, F__law_digits, m__law_digits, p__law_digits, k__law_digits⟩ := H__law_digits
  obtain ⟨f_upper_at, fd_upper_at, F_upper_at, m_upper_at, p_upper_at, k_upper_at⟩ := H_upper_at
  obtain ⟨f_upper_place, fd_upper_place, F_upper_place, m_upper_place, p_upper_place, k_upper_place⟩ := H_upper_place
  obtain ⟨f__law_draw, fd__law_draw, F__law_draw, m__law_draw, p__law_draw, k__law_draw⟩ := H__law_draw
  refine ⟨f, fd, def0 (k := 3) (ms := [.tape, .frz, .frz, .frz]) (n := 7) (mr := .frz) (c := c__law_are_places_right) (Mn := [.tape, .dead, .dead, .dead, .dead, .dead, .dead, .dead, .dead, .dead, .dead]) pvFst F sc__law_are_places_right hs rfl rfl hp1 (hio1 rfl) rfl (fun cdv A outer s H E vs C => ?_), m, F.kp, kb_of F fun _ _ _ _ _ _ us ws hu hw => match us, ws, hu, hw with | [_, _, _, _], [], _, _ => rfl, trivial⟩
  have nd := sc__law_are_places_right.nd
  exact (ss_cons (M1 := [.tape, .frz, .frz, .frz, .frz, .frz, .dead, .dead, .dead, .dead, .dead]) (st_par2 (i := 4) (j := 5) C nd (TAs.cons (TO.bin (g := fdivD) (fdivV) (TO.bin (g := mulD) (mulV C.hK) (TO.var (pv 2) rfl) (TO.bin (g := addD) (addV C.hK) (TO.var (pv 2) rfl) (TO.const pe_int fun _ _ => .int _) (fun _ z => nomatch z) rfl rfl) (fun _ z => nomatch z) rfl rfl) (TO.const pe_int fun _ _ => .int _) (fun _ z => nomatch z) rfl rfl) (TAs.cons (TO.call (io := [none]) (os := [.tm .frz]) C F__law_laid m__law_laid p__law_laid Z.takes0 k__law_laid.1 (TAs.cons (TO.var (pv 3) rfl) TAs.nil (fun _ z => nomatch z) rfl)) TAs.nil (fun _ z => nomatch z) rfl) (fun _ z => nomatch z) rfl))
        (ss_cons (M1 := [.tape, .frz, .frz, .frz, .frz, .frz, (.lst .frz), .dead, .dead, .dead, .dead]) (st_set (i := 6) (TO.list (TAs.cons (TO.call (io := [none]) (os := [.tm .frz]) C F_laid_upper m_laid_upper p_laid_upper Z.takes0 k_laid_upper.1 (TAs.cons (TO.var (pv 3) rfl) TAs.nil (fun _ z => nomatch z) rfl)) (TAs.cons (TO.callK0 (io := [none]) (ok := [.tm .frz]) C F_laid_upper m_laid_upper p_laid_upper Z.takes0 k_laid_upper.2.1 (TKs.cons (TO.var (pv 3) rfl) TKs.nil (fun _ z => nomatch z))) (TAs.cons (TO.call (io := [none, none]) (os := [.tm .frz, .tm .frz]) C F_upper_of_laid m_upper_of_laid p_upper_of_laid Z.takes0 k_upper_of_laid.1 (TAs.cons (TO.var (pv 2) rfl) (TAs.cons (TO.var (pv 5) rfl) TAs.nil (fun _ z => nomatch z) rfl) (fun _ z => nomatch z) rfl)) (TAs.cons (TO.callK0 (io := [none, none]) (ok := [.tm .frz, .tm .frz]) C F_upper_of_laid m_upper_of_laid p_upper_of_laid Z.takes0 k_upper_of_laid.2.1 (TKs.cons (TO.var (pv 5) rfl) (TKs.cons (TO.var (pv 2) rfl) TKs.nil (fun _ z => nomatch z)) (fun _ z => nomatch z))) TAs.nil (fun _ z => nomatch z) rfl) (fun _ z => nomatch z) rfl) (fun _ z => nomatch z) rfl) (fun _ z => nomatch z) rfl) (by simp)) nd)
        (ss_cons (M1 := [.tape, .frz, .frz, .frz, .frz, .frz, (.lst .frz), .frz, .dead, .dead, .dead]) (st_set (i := 7) (TO.call (io := [none, none]) (os := [.tm .frz, .tm .frz]) C F__law_power m__law_power p__law_power Z.takes0 k__law_power.1 (TAs.cons (TO.var (pv 1) rfl) (TAs.cons (TO.var (pv 4) rfl) TAs.nil (fun _ z => nomatch z) rfl) (fun _ z => nomatch z) rfl)) nd)
        (ss_cons (M1 := [.tape, .frz, .frz, .frz, .frz, .frz, (.lst .frz), .frz, .dead, .dead, .dead]) (st_expr (TO.meth (i := 6) (g := extendG) C lm_extend PySem.F.slot_list_extend PySem.F.type_list_extend (pv 6) (TAs.cons (TO.freeze (TO.list (TAs.cons (TO.call (io := [none, none]) (os := [.tm .frz, .tm .frz]) C F_uppers_number m_uppers_number p_uppers_number Z.takes0 k_uppers_number.1 (TAs.cons (TO.var (pv 1) rfl) (TAs.cons (TO.var (pv 2) rfl) TAs.nil (fun _ z => nomatch z) rfl) (fun _ z => nomatch z) rfl)) (TAs.cons (TO.callK0 (io := [none, none]) (ok := [.tm .frz, .tm .frz]) C F_uppers_number m_uppers_number p_uppers_number Z.takes0 k_uppers_number.2.1 (TKs.cons (TO.var (pv 2) rfl) (TKs.cons (TO.var (pv 1) rfl) TKs.nil (fun _ z => nomatch z)) (fun _ z => nomatch z))) TAs.nil (fun _ z => nomatch z) rfl) (fun _ z => nomatch z) rfl) (by simp)) rfl) TAs.nil (fun _ z => nomatch z) rfl) (by simp)))
        (ss_cons (M1 := [.tape, .frz, .frz, .frz, .frz, .frz, .frz, .frz, .dead, .dead, .dead]) (st_frz (i := 6) (m := (.lst .frz)) (st_if (tt_not (tt_val (TO.call (io := [none, none]) (os := [.tm .frz, .tm .frz]) C F__law_same m__law_same p__law_same Z.takes0 k__law_same.1 (TAs.cons (TO.var (pv 6) rfl) (TAs.cons (TO.freeze (TO.list (TAs.cons (TO.var (pv 5) rfl) (TAs.cons (TO.var (pv 5) rfl) (TAs.cons (TO.var (pv 3) rfl) (TAs.cons (TO.var (pv 3) rfl) (TAs.cons (TO.var (pv 7) rfl) (TAs.cons (TO.var (pv 7) rfl) TAs.nil (fun _ z => nomatch z) rfl) (fun _ z => nomatch z) rfl) (fun _ z => nomatch z) rfl) (fun _ z => nomatch z) rfl) (fun _ z => nomatch z) rfl) (fun _ z => nomatch z) rfl) (by simp)) rfl) TAs.nil (fun _ z => nomatch z) rfl) (fun _ z => nomatch z) rfl)) fun _ => rfl)) (ss_last (st_ret (TO.const pe_bl fun _ _ => .bl false))) ss_nil))
        (ss_cons (M1 := [.tape, .frz, .frz, .frz, .frz, .frz, .frz, .frz, .frz, .dead, .dead]) (st_set (i := 8) (TO.freeze (TO.list (TAs.cons (TO.const pe_int fun _ _ => .int _) (TAs.cons (TO.bin (g := subD) (subV) (TO.var (pv 7) rfl) (TO.const pe_int fun _ _ => .int _) (fun _ z => nomatch z) rfl rfl) (TAs.cons (TO.const pe_int fun _ _ => .int _) (TAs.cons (TO.bin (g := fdivD) (fdivV) (TO.var (pv 7) rfl) (TO.var (pv 1) rfl) (fun _ z => nomatch z) rfl rfl) (TAs.cons (TO.call (io := [none, none]) (os := [.tm .frz, .tm .frz]) C F__law_place m__law_place p__law_place Z.takes0 k__law_place.1 (TAs.cons (TO.var (pv 1) rfl) (TAs.cons (TO.var (pv 5) rfl) TAs.nil (fun _ z => nomatch z) rfl) (fun _ z => nomatch z) rfl)) (TAs.cons (TO.call (io := [none, none]) (os := [.tm .frz, .tm .frz]) C F__law_place m__law_place p__law_place Z.takes0 k__law_place.1 (TAs.cons (TO.var (pv 1) rfl) (TAs.cons (TO.call (io := [some 0, none, none]) (os := [.sl 0, .tm .frz, .tm .frz]) C F__law_numbers m__law_numbers p__law_numbers Z.takes0 k__law_numbers.1 (TAs.consS (m := .tape) (pv 0) (TAs.cons (TO.var (pv 1) rfl) (TAs.cons (TO.var (pv 4) rfl) TAs.nil (fun _ z => nomatch z) rfl) (fun _ z => nomatch z) rfl))) TAs.nil (fun _ z => nomatch z) rfl) (fun _ z => nomatch z) rfl)) TAs.nil (fun _ z => nomatch z) rfl) (fun _ z => nomatch z) rfl) (fun _ z => nomatch z) rfl) (fun _ z => nomatch z) rfl) (fun _ z => nomatch z) rfl) (fun _ z => nomatch z) rfl) (by simp)) rfl) nd)
        (ss_cons (M1 := [.tape, .frz, .frz, .frz, .frz, .frz, .dead, .frz, .frz, .dead, .dead]) (st_for (Ml := [.tape, .frz, .frz, .frz, .frz, .frz, .dead, .frz, .frz, .dead, .dead]) (Mn := [.tape, .frz, .frz, .frz, .frz, .frz, .dead, .frz, .frz, .dead, .dead]) (f := b__law_are_places_right_1) C never (is_seq C (TO.bin (g := addD) (addV C.hK) (TO.var (pv 8) rfl) (TO.list (TAs.cons (TO.bin (g := fdivD) (fdivV) (TO.var (pv 7) rfl) (TO.const pe_int fun _ _ => .int _) (fun _ z => nomatch z) rfl rfl) (TAs.cons (TO.bin (g := subD) (subV) (TO.bin (g := subD) (subV) (TO.var (pv 7) rfl) (TO.const pe_int fun _ _ => .int _) (fun _ z => nomatch z) rfl rfl) (TO.call (io := [some 0, none]) (os := [.sl 0, .tm .frz]) C F__law_draw m__law_draw p__law_draw Z.takes0 k__law_draw.1 (TAs.consS (m := .tape) (pv 0) (TAs.cons (TO.callB (g := two min2D) (min2V C.hc) rfl b_min bt_min (TAs.cons (TO.var (pv 7) rfl) (TAs.cons (TO.const pe_int fun _ _ => .int _) TAs.nil (fun _ z => nomatch z) rfl) (fun _ z => nomatch z) rfl) rfl (by decide) (by decide) rfl rfl) TAs.nil (fun _ z => nomatch z) rfl))) (fun _ z => nomatch z) rfl rfl) TAs.nil (fun _ z => nomatch z) rfl) (fun _ z => nomatch z) rfl) (by simp)) (fun _ z => nomatch z) rfl rfl)) (tg_name (i := 9) nd) (ss_weak (M1 := [.tape, .frz, .frz, .frz, .frz, .frz, (.lst .frz), .frz, .frz, .frz, .frz]) (ss_cons (M1 := [.tape, .frz, .frz, .frz, .frz, .frz, .dead, .frz, .frz, .frz, .frz]) (st_set (i := 10) (TO.call (io := [none, none]) (os := [.tm .frz, .tm .frz]) C F__law_upper_of m__law_upper_of p__law_upper_of Z.takes0 k__law_upper_of.1 (TAs.cons (TO.var (pv 2) rfl) (TAs.cons (TO.call (io := [none, none, none]) (os := [.tm .frz, .tm .frz, .tm .frz]) C F__law_digits m__law_digits p__law_digits Z.takes0 k__law_digits.1 (TAs.cons (TO.var (pv 1) rfl) (TAs.cons (TO.var (pv 4) rfl) (TAs.cons (TO.var (pv 9) rfl) TAs.nil (fun _ z => nomatch z) rfl) (fun _ z => nomatch z) rfl) (fun _ z => nomatch z) rfl)) TAs.nil (fun _ z => nomatch z) rfl) (fun _ z => nomatch z) rfl)) nd)
        (ss_cons (M1 := [.tape, .frz, .frz, .frz, .frz, .frz, (.lst .frz), .frz, .frz, .frz, .frz]) (st_set (i := 6) (TO.list (TAs.cons (TO.call (io := [none, none, none]) (os := [.tm .frz, .tm .frz, .tm .frz]) C F_upper_at m_upper_at p_upper_at Z.takes0 k_upper_at.1 (TAs.cons (TO.var (pv 1) rfl) (TAs.cons (TO.var (pv 2) rfl) (TAs.cons (TO.var (pv 9) rfl) TAs.nil (fun _ z => nomatch z) rfl) (fun _ z => nomatch z) rfl) (fun _ z => nomatch z) rfl)) (TAs.cons (TO.callK0 (io := [none, none, none]) (ok := [.tm .frz, .tm .frz, .tm .frz]) C F_upper_at m_upper_at p_upper_at Z.takes0 k_upper_at.2.1 (TKs.cons (TO.var (pv 9) rfl) (TKs.cons (TO.var (pv 2) rfl) (TKs.cons (TO.var (pv 1) rfl) TKs.nil (fun _ z => nomatch z)) (fun _ z => nomatch z)) (fun _ z => nomatch z))) (TAs.cons (TO.call (io := [none, none]) (os := [.tm .frz, .tm .frz]) C F_upper_place m_upper_place p_upper_place Z.takes0 k_upper_place.1 (TAs.cons (TO.var (pv 1) rfl) (TAs.cons (TO.var (pv 10) rfl) TAs.nil (fun _ z => nomatch z) rfl) (fun _ z => nomatch z) rfl)) TAs.nil (fun _ z => nomatch z) rfl) (fun _ z => nomatch z) rfl) (fun _ z => nomatch z) rfl) (by simp)) nd)
        (ss_last (st_if (tt_not (tt_val (TO.call (io := [none, none]) (os := [.tm .frz, .tm .frz]) C F__law_same m__law_same p__law_same Z.takes0 k__law_same.1 (TAs.cons (TO.binS (g := addD) (ma := (.lst .frz)) (addV C.hK) (pv 6) (TO.list (TAs.cons (TO.callK0 (io := [none, none]) (ok := [.tm .frz, .tm .frz]) C F_upper_place m_upper_place p_upper_place Z.takes0 k_upper_place.2.1 (TKs.cons (TO.var (pv 10) rfl) (TKs.cons (TO.var (pv 1) rfl) TKs.nil (fun _ z => nomatch z)) (fun _ z => nomatch z))) TAs.nil (fun _ z => nomatch z) rfl) (by simp))) (TAs.cons (TO.freeze (TO.list (TAs.cons (TO.var (pv 10) rfl) (TAs.cons (TO.var (pv 10) rfl) (TAs.cons (TO.var (pv 9) rfl) (TAs.cons (TO.var (pv 9) rfl) TAs.nil (fun _ z => nomatch z) rfl) (fun _ z => nomatch z) rfl) (fun _ z => nomatch z) rfl) (fun _ z => nomatch z) rfl) (by simp)) rfl) TAs.nil (fun _ z => nomatch z) rfl) (fun _ z => nomatch z) rfl)) fun _ => rfl)) (ss_last (st_ret (TO.const pe_bl fun _ _ => .bl false))) ss_nil))))))
        (ss_last (st_ret (TO.const pe_bl fun _ _ => .bl true))))))))))
abbrev N__law_bad_upper : List Str := [("bag" : Str), ("p" : Str), ("upper" : Str), ("way" : Str), ("at" : Str), ("some" : Str)]
abbrev s__law_bad_upper : Stmt := top 37
theorem sc__law_bad_upper : FnScope N__law_bad_upper [("bag" : Str), ("p" : Str), ("upper" : Str)] (defScope s__law_bad_upper) := ⟨rfl, rfl, rfl, by decide +kernel, rfl, by decide +kernel, by decide +kernel⟩
theorem h__law_bad_upper {Pr : Program} {w : PySem.World} {P : Par2} {mg : Str → Option Value} {base : Heap} {f : Addr} {fd : FuncData} (hP : P.tp = tapeP)
    (hs : ∃ o, base.get? sysModules = some o)
    (b_len : mg ("len" : Str) = none)
    (b_list : mg ("list" : Str) = none)
    (H__law_draw : HasD Pr w P mg base 1 ("_law_draw" : Str) [("bag" : Str), ("below" : Str)] (spT P [.tape, .frz] .frz v__law_draw) (fun fd => KB fd [("bag" : Str), ("below" : Str)] 2 [] [0, 1] ∧ True))
    (H__law_pick : HasD Pr w P mg base 2 ("_law_pick" : Str) [("bag" : Str), ("some" : Str)] (spT P [.tape, .frz] .frz v__law_pick) (fun fd => KB fd [("bag" : Str), ("some" : Str)] 2 [] [0, 1] ∧ True))
    (H__law_with : HasD Pr w P mg base 1 ("_law_with" : Str) [("row" : Str), ("at" : Str), ("item" : Str)] (spT P [.frz, .frz, .frz] .frz v__law_with) (fun fd => KB fd [("row" : Str), ("at" : Str), ("item" : Str)] 3 [] [0, 1, 2] ∧ True))
    (H__law_laid : HasD Pr w P mg base 1 ("_law_laid" : Str) [("upper" : Str)] (spT P [.frz] .frz v__law_laid) (fun fd => KB fd [("upper" : Str)] 1 [] [0] ∧ True))
    (H__law_bad_row : HasD Pr w P mg base 4 ("_law_bad_row" : Str) [("bag" : Str), ("p" : Str), ("row" : Str)] (spT P [.tape, .frz, .frz] .frz v__law_bad_row) (fun fd => KB fd [("bag" : Str), ("p" : Str), ("row" : Str)] 3 [] [0, 1, 2] ∧ True))
    (F : FunD P.K ("_law_bad_upper" : Str) ("_law_bad_upper" : Str) (defArgs s__law_bad_upper) (defBody s__law_bad_upper) (defScope s__law_bad_upper) [] [] f fd)
    (m : mg ("_law_bad_upper" : Str) = some (.ref f)) :
    HasD Pr w P mg base 5 ("_law_bad_upper" : Str) [("bag" : Str), ("p" : Str), ("upper" : Str)] (spT P [.tape, .frz, .frz] .frz v__law_bad_upper) (fun fd => KB fd [("bag" : Str), ("p" : Str), ("upper" : Str)] 3 [] [0, 1, 2] ∧ True) := by
  obtain ⟨f__law_draw, fd__law_draw, F__law_draw, m__law_draw, p__law_draw, k__law_draw⟩ := H__law_draw
  obtain ⟨f__law_pick, fd__law_pick, F__law_pick, m__law_pick, p__law_pick, k__law_pick⟩ := H__law_pick
  obtain ⟨f__law_with, fd__law_with, F__law_with, m__law_with, p__law_with, k__law_with⟩ := H__law_with
  obtain ⟨f__law_laid, fd__law_laid, F__law_laid, m__law_laid, p__law_laid, k__law_laid⟩ := H__law_laid
  obtain ⟨f__law_bad_row, fd__law_bad_row, F__law_bad_row, m__law_bad_row, p__law_bad_row, k__law_bad_row⟩ := H__law_bad_row
  refine ⟨f, fd, def0 (k := 4) (ms := [.tape, .frz, .frz]) (n := 3) (mr := .frz) (c := c__law_bad_upper) (Mn := [.tape, .dead, .dead, .dead, .dead, .dead]) pvFst F sc__law_bad_upper hs rfl rfl hp1 (hio1 rfl) rfl (fun cdv A outer s H E vs C => ?_), m, F.kp, kb_of F fun _ _ _ _ _ _ us ws hu hw => match us, ws, hu, hw with | [_, _, _], [], _, _ => rfl, trivial⟩
  have nd := sc__law_bad_upper.nd
  exact (ss_cons (M1 := [.tape, .frz, .frz, .frz, .dead, .dead]) (st_set (i := 3) (TO.call (io := [some 0, none]) (os := [.sl 0, .tm .frz]) C F__law_draw m__law_draw p__law_draw Z.takes0 k__law_draw.1 (TAs.consS (m := .tape) (pv 0) (TAs.cons (TO.const pe_int fun _ _ => .int _) TAs.nil (fun _ z => nomatch z) rfl))) nd)
        (ss_cons (M1 := [.tape, .frz, .frz, .frz, .dead, .dead]) (st_if (tt_cmp (g := gtD) (gtV C.hK) rfl (TO.var (pv 3) rfl) (TO.const pe_int fun _ _ => .int _) (fun _ z => nomatch z) rfl rfl) (ss_cons (M1 := [.tape, .frz, .frz, .frz, .frz, .dead]) (st_set (i := 4) (TO.call (io := [some 0, none]) (os := [.sl 0, .tm .frz]) C F__law_pick m__law_pick p__law_pick Z.takes0 k__law_pick.1 (TAs.consS (m := .tape) (pv 0) (TAs.cons (TO.freeze (TO.list (TAs.cons (TO.const pe_int fun _ _ => .int _) (TAs.cons (TO.bin (g := subD) (subV) (TO.callB (g := one lenD) (lenV C.hK) rfl b_len bt_len (TAs.cons (TO.var (pv 2) rfl) TAs.nil (fun _ z => nomatch z) rfl) rfl (by decide) (by decide) rfl rfl) (TO.const pe_int fun _ _ => .int _) (fun _ z => nomatch z) rfl rfl) (TAs.cons (TO.call (io := [some 0, none]) (os := [.sl 0, .tm .frz]) C F__law_draw m__law_draw p__law_draw Z.takes0 k__law_draw.1 (TAs.consS (m := .tape) (pv 0) (TAs.cons (TO.callB (g := one lenD) (lenV C.hK) rfl b_len bt_len (TAs.cons (TO.var (pv 2) rfl) TAs.nil (fun _ z => nomatch z) rfl) rfl (by decide) (by decide) rfl rfl) TAs.nil (fun _ z => nomatch z) rfl))) TAs.nil (fun _ z => nomatch z) rfl) (fun _ z => nomatch z) rfl) (fun _ z => nomatch z) rfl) (by simp)) rfl) TAs.nil (fun _ z => nomatch z) rfl))) nd)
        (ss_last (st_ret (TO.call (io := [none, none, none]) (os := [.tm .frz, .tm .frz, .tm .frz]) C F__law_with m__law_with p__law_with Z.takes0 k__law_with.1 (TAs.cons (TO.var (pv 2) rfl) (TAs.cons (TO.var (pv 4) rfl) (TAs.cons (TO.call (io := [some 0, none, none]) (os := [.sl 0, .tm .frz, .tm .frz]) C F__law_bad_row m__law_bad_row p__law_bad_row Z.takes0 k__law_bad_row.1 (TAs.consS (m := .tape) (pv 0) (TAs.cons (TO.var (pv 1) rfl) (TAs.cons (TO.idx C.hK (TO.var (pv 2) rfl) (TO.var (pv 4) rfl) (fun _ z => nomatch z) rfl rfl (fun _ _ => rfl)) TAs.nil (fun _ z => nomatch z) rfl) (fun _ z => nomatch z) rfl))) TAs.nil (fun _ z => nomatch z) rfl) (fun _ z => nomatch z) rfl) (fun _ z => nomatch z) rfl))))) ss_nil)
        (ss_cons (M1 := [.tape, .frz, .frz, .frz, .dead, .frz]) (st_set (i := 5) (TO.freeze (TO.list (TAs.cons (TO.bin (g := addD) (addV C.hK) (TO.var (pv 2) rfl) (TO.tuple (TAs.cons (TO.tuple TAs.nil (by simp)) TAs.nil (fun _ z => nomatch z) rfl) (by simp)) (fun _ z => nomatch z) rfl rfl) (TAs.cons (TO.sli C.hK (TO.var (pv 2) rfl) tpart_none (tpart_some (TO.un (g := negD) negV (TO.const pe_int fun _ _ => .int _) rfl)) (fun _ z => nomatch z) rfl) (TAs.cons (TO.sli C.hK (TO.var (pv 2) rfl) (tpart_some (TO.const pe_int fun _ _ => .int _)) tpart_none (fun _ z => nomatch z) rfl) (TAs.cons (TO.freeze (TO.callT (g := one listD) (listV C.hK) rfl b_list bt_list (TAs.cons (TO.var (pv 2) rfl) TAs.nil (fun _ z => nomatch z) rfl) rfl (by decide) (by decide) rfl rfl) rfl) (TAs.cons (TO.const pe_non fun _ _ => .non) (TAs.cons (TO.tuple TAs.nil (by simp)) (TAs.cons (TO.const pe_int fun _ _ => .int _) (TAs.cons (TO.const pe_str fun _ _ => .str _) (TAs.cons (TO.freeze TO.dict0K rfl) (TAs.cons (TO.call (io := [none]) (os := [.tm .frz]) C F__law_laid m__law_laid p__law_laid Z.takes0 k__law_laid.1 (TAs.cons (TO.var (pv 2) rfl) TAs.nil (fun _ z => nomatch z) rfl)) TAs.nil (fun _ z => nomatch z) rfl) (fun _ z => nomatch z) rfl) (fun _ z => nomatch z) rfl) (fun _ z => nomatch z) rfl) (fun _ z => nomatch z) rfl) (fun _ z => nomatch z) rfl) (fun _ z => nomatch z) rfl) (fun _ z => nomatch z) rfl) (fun _ z => nomatch z) rfl) (fun _ z => nomatch z) rfl) (by simp)) rfl) nd)
        (ss_last (st_ret (TO.call (io := [some 0, none]) (os := [.sl 0, .tm .frz]) C F__law_pick m__law_pick p__law_pick Z.takes0 k__law_pick.1 (TAs.consS (m := .tape) (pv 0) (TAs.cons (TO.bin (g := addD) (addV C.hK) (TO.var (pv 5) rfl) (TO.list (TAs.cons (TO.rev C (TO.var (pv 2) rfl) rfl) (TAs.cons (TO.tuple (TAs.cons (TO.var (pv 2) rfl) TAs.nil (fun _ z => nomatch z) rfl) (by simp)) (TAs.cons (TO.freeze (TO.list (TAs.cons (TO.var (pv 2) rfl) TAs.nil (fun _ z => nomatch z) rfl) (by simp)) rfl) (TAs.cons (TO.const pe_bl fun _ _ => .bl true) (TAs.cons (TO.bin (g := mulD) (mulV C.hK) (TO.tuple (TAs.cons (TO.const pe_non fun _ _ => .non) TAs.nil (fun _ z => nomatch z) rfl) (by simp)) (TO.callB (g := one lenD) (lenV C.hK) rfl b_len bt_len (TAs.cons (TO.var (pv 2) rfl) TAs.nil (fun _ z => nomatch z) rfl) rfl (by decide) (by decide) rfl rfl) (fun _ z => nomatch z) rfl rfl) TAs.nil (fun _ z => nomatch z) rfl) (fun _ z => nomatch z) rfl) (fun _ z => nomatch z) rfl) (fun _ z => nomatch z) rfl) (fun _ z => nomatch z) rfl) (by simp)) (fun _ z => nomatch z) rfl rfl) TAs.nil (fun _ z => nomatch z) rfl))))))))
abbrev N__law_values : List Str := [("bag" : Str), ("p" : Str), ("l" : Str), ("upper" : Str), ("found" : Str), ("turn" : Str), ("one" : Str), ("at" : Str), ("last" : Str), ("some" : Str)]
abbrev s__law_values : Stmt := top 38
theorem sc__law_values : FnScope N__law_values [("bag" : Str), ("p" : Str), ("l" : Str), ("upper" : Str)] (defScope s__law_values) := ⟨rfl, rfl, rfl, by decide +kernel, rfl, by decide +kernel, by decide +kernel⟩
theorem h__law_values {Pr : Program} {w : PySem.World} {P : Par2} {mg : Str → Option Value} {base : Heap} {f : Addr} {fd : FuncData} (hP : P.tp = tapeP)
    (hs : ∃ o, base.get? sysModules = some o)
    (b_isinstance : mg ("isinstance" : Str) = none)
    (b_len : mg ("len" : Str) = none)
    (b_range : mg ("range" : Str) = none)
    (b_tuple : mg ("tuple" : Str) = none)
    (H__law_upper : HasD Pr w P mg base 4 ("_law_upper" : Str) [("bag" : Str), ("p" : Str), ("l" : Str)] (spT P [.tape, .frz, .frz] .frz v__law_upper) (fun fd => KB fd [("bag" : Str), ("p" : Str), ("l" : Str)] 3 [] [0, 1, 2] ∧ True))
    (H__law_with : HasD Pr w P mg base 1 ("_law_with" : Str) [("row" : Str), ("at" : Str), ("item" : Str)] (spT P [.frz, .frz, .frz] .frz v__law_with) (fun fd => KB fd [("row" : Str), ("at" : Str), ("item" : Str)] 3 [] [0, 1, 2] ∧ True))
    (H__law_bad_upper : HasD Pr w P mg base 5 ("_law_bad_upper" : Str) [("bag" : Str), ("p" : Str), ("upper" : Str)] (spT P [.tape, .frz, .frz] .frz v__law_bad_upper) (fun fd => KB fd [("bag" : Str), ("p" : Str), ("upper" : Str)] 3 [] [0, 1, 2] ∧ True))
    (H__law_draw : HasD Pr w P mg base 1 ("_law_draw" : Str) [("bag" : Str), ("below" : Str)] (spT P [.tape, .frz] .frz v__law_draw) (fun fd => KB fd [("bag" : Str), ("below" : Str)] 2 [] [0, 1] ∧ True))
    (H__law_pick : HasD Pr w P mg base 2 ("_law_pick" : Str) [("bag" : Str), ("some" : Str)] (spT P [.tape, .frz] .frz v__law_pick) (fun fd => KB fd [("bag" : Str), ("some" : Str)] 2 [] [0, 1] ∧ True))
    (H__law_bad_number : HasD Pr w P mg base 3 ("_law_bad_number" : Str) [("bag" : Str), ("p" : Str)] (spT P [.tape, .frz] .frz v__law_bad_number) (fun fd => KB fd [("bag" : Str), ("p" : Str)] 2 [] [0, 1] ∧ True))
    (H__law_bad_row : HasD Pr w P mg base 4 ("_law_bad_row" : Str) [("bag" : Str), ("p" : Str), ("row" : Str)] (spT P [.tape, .frz, .frz] .frz v__law_bad_row) (fun fd => KB fd [("bag" : Str), ("p" : Str), ("row" : Str)] 3 [] [0, 1, 2] ∧ True))
    (F : FunD P.K ("_law_values" : Str) ("_law_values" : Str) (defArgs s__law_values) (defBody s__law_values) (defScope s__law_values) [] [] f fd)
    (m : mg ("_law_values" : Str) = some (.ref f)) :
    HasD Pr w P mg base 6 ("_law_values" : Str) [("bag" : Str), ("p" : Str), ("l" : Str), ("upper" : Str)] (spT P [.tape, .frz, .frz, .frz] .frz v__law_values) (fun fd => KB fd [("bag" : Str), ("p" : Str), ("l" : Str), ("upper" : Str)] 4 [] [0, 1, 2, 3] ∧ True) := by
  obtain ⟨f__law_upper, fd__law_upper, F__law_upper, m__law_upper, p__law_upper, k__law_upper⟩ := H__law_upper
  obtain ⟨f__law_with, fd__law_with, F__law_with, m__law_with, p__law_with, k__law_with⟩ := H__law_with
  obtain ⟨f__law_bad_upper, fd__law_bad_upper, F__law_bad_upper, m__law_bad_upper, p__law_bad_upper, k__law_bad_upper⟩ := H__law_bad_upper
  obtain ⟨f__law_draw, fd__law_draw, F__law_draw, m__law_draw, p__law_draw, k__law_draw⟩ := H__law_draw
  obtain ⟨f__law_pick, fd__law_pick, F__law_pick, m__law_pick, p__law_pick, k__law_pick⟩ := H__law_pick
  obtain ⟨f__law_bad_number, fd__law_bad_number, F__law_bad_number, m__law_bad_number, p__law_bad_number, k__law_bad_number⟩ := H__law_bad_number
  obtain ⟨f__law_bad_row, fd__law_bad_row, F__law_bad_row, m__law_bad_row, p__law_bad_row, k__law_bad_row⟩ := H__law_bad_row
  refine ⟨f, fd, def0 (k := 5) (ms := [.tape, .frz, .frz, .frz]) (n := 6) (mr := .frz) (c := c__law_values) (Mn := [.tape, .dead, .dead, .dead, .dead, .dead, .dead, .dead, .dead, .dead]) pvFst F sc__law_values hs rfl rfl hp1 (hio1 rfl) rfl (fun cdv A outer s H E vs C => ?_), m, F.kp, kb_of F fun _ _ _ _ _ _ us ws hu hw => match us, ws, hu, hw with | [_, _, _, _], [], _, _ => rfl, trivial⟩
  have nd := sc__law_values.nd
  exact (ss_cons (M1 := [.tape, .frz, .frz, .frz, (.lst .frz), .dead, .dead, .dead, .dead, .dead]) (st_set (i := 4) (TO.list (TAs.cons (TO.var (pv 3) rfl) (TAs.cons (TO.call (io := [some 0, none, none]) (os := [.sl 0, .tm .frz, .tm .frz]) C F__law_upper m__law_upper p__law_upper Z.takes0 k__law_upper.1 (TAs.consS (m := .tape) (pv 0) (TAs.cons (TO.var (pv 1) rfl) (TAs.cons (TO.var (pv 2) rfl) TAs.nil (fun _ z => nomatch z) rfl) (fun _ z => nomatch z) rfl))) TAs.nil (fun _ z => nomatch z) rfl) (fun _ z => nomatch z) rfl) (by simp)) nd)
        (ss_cons (M1 := [.tape, .frz, .frz, .frz, (.lst .frz), .dead, .dead, .dead, .dead, .dead]) (st_for (Ml := [.tape, .frz, .frz, .frz, (.lst .frz), .dead, .dead, .dead, .dead, .dead]) (Mn := [.tape, .frz, .frz, .frz, (.lst .frz), .dead, .dead, .dead, .dead, .dead]) (f := b__law_values_1) C never (rng1_post rfl b_range (TAs.cons (TO.const pe_int fun _ _ => .int _) TAs.nil (fun _ z => nomatch z) rfl)) (tg_name (i := 5) nd) (ss_weak (M1 := [.tape, .frz, .frz, .frz, (.lst .frz), .frz, .dead, .dead, .dead, .dead]) (ss_last (st_expr (TO.meth (i := 4) (g := appendG) C lm_append PySem.F.slot_list_append PySem.F.type_list_append (pv 4) (TAs.cons (TO.call (io := [some 0, none, none]) (os := [.sl 0, .tm .frz, .tm .frz]) C F__law_bad_upper m__law_bad_upper p__law_bad_upper Z.takes0 k__law_bad_upper.1 (TAs.consS (m := .tape) (pv 0) (TAs.cons (TO.var (pv 1) rfl) (TAs.cons (TO.var (pv 3) rfl) TAs.nil (fun _ z => nomatch z) rfl) (fun _ z => nomatch z) rfl))) TAs.nil (fun _ z => nomatch z) rfl) (by simp))))))
        (ss_cons (M1 := [.tape, .frz, .frz, .frz, (.lst .frz), .dead, .dead, .dead, .dead, .dead]) (st_for (Ml := [.tape, .frz, .frz, .frz, (.lst .frz), .dead, .dead, .dead, .dead, .dead]) (Mn := [.tape, .frz, .frz, .frz, (.lst .frz), .dead, .dead, .dead, .dead, .dead]) (f := b__law_values_2) C never (rng1_post rfl b_range (TAs.cons (TO.const pe_int fun _ _ => .int _) TAs.nil (fun _ z => nomatch z) rfl)) (tg_name (i := 5) nd) (ss_weak (M1 := [.tape, .frz, .frz, .frz, (.lst .frz), .frz, .frz, .frz, .dead, .dead]) (ss_cons (M1 := [.tape, .frz, .frz, .frz, (.lst .frz), .frz, .frz, .frz, .dead, .dead]) (st_par2 (i := 6) (j := 7) C nd (TAs.cons (TO.call (io := [some 0, none, none]) (os := [.sl 0, .tm .frz, .tm .frz]) C F__law_bad_upper m__law_bad_upper p__law_bad_upper Z.takes0 k__law_bad_upper.1 (TAs.consS (m := .tape) (pv 0) (TAs.cons (TO.var (pv 1) rfl) (TAs.cons (TO.var (pv 3) rfl) TAs.nil (fun _ z => nomatch z) rfl) (fun _ z => nomatch z) rfl))) (TAs.cons (TO.call (io := [some 0, none]) (os := [.sl 0, .tm .frz]) C F__law_draw m__law_draw p__law_draw Z.takes0 k__law_draw.1 (TAs.consS (m := .tape) (pv 0) (TAs.cons (TO.var (pv 2) rfl) TAs.nil (fun _ z => nomatch z) rfl))) TAs.nil (fun _ z => nomatch z) rfl) (fun _ z => nomatch z) rfl))
        (ss_last (st_if (PW.pt (tw_and (tt_val (TO.isi C rfl b_isinstance (pe_bty rfl b_tuple bt_tuple) (TO.var (pv 6) rfl) rfl) fun _ => rfl) (tw_and1 (tt_cmp (g := eqD) (eqV C.hK (by have := C.hr.un; omega)) rfl (TO.callB (g := one lenD) (lenV C.hK) rfl b_len bt_len (TAs.cons (TO.var (pv 6) rfl) TAs.nil (fun _ z => nomatch z) rfl) rfl (by decide) (by decide) rfl rfl) (TO.var (pv 2) rfl) (fun _ z => nomatch z) rfl rfl)))) (ss_last (st_expr (TO.meth (i := 4) (g := appendG) C lm_append PySem.F.slot_list_append PySem.F.type_list_append (pv 4) (TAs.cons (TO.call (io := [none, none, none]) (os := [.tm .frz, .tm .frz, .tm .frz]) C F__law_with m__law_with p__law_with Z.takes0 k__law_with.1 (TAs.cons (TO.var (pv 6) rfl) (TAs.cons (TO.var (pv 7) rfl) (TAs.cons (TO.call (io := [some 0, none, none]) (os := [.sl 0, .tm .frz, .tm .frz]) C F__law_bad_row m__law_bad_row p__law_bad_row Z.takes0 k__law_bad_row.1 (TAs.consS (m := .tape) (pv 0) (TAs.cons (TO.var (pv 1) rfl) (TAs.cons (TO.idx C.hK (TO.var (pv 3) rfl) (TO.var (pv 7) rfl) (fun _ z => nomatch z) rfl rfl (fun _ _ => rfl)) TAs.nil (fun _ z => nomatch z) rfl) (fun _ z => nomatch z) rfl))) TAs.nil (fun _ z => nomatch z) rfl) (fun _ z => nomatch z) rfl) (fun _ z => nomatch z) rfl)) TAs.nil (fun _ z => nomatch z) rfl) (by simp)))) ss_nil)))))
        (ss_cons (M1 := [.tape, .frz, .frz, .frz, (.lst .frz), .dead, .dead, .dead, .frz, .dead]) (st_set (i := 8) (TO.idx C.hK (TO.var (pv 3) rfl) (TO.un (g := negD) negV (TO.const pe_int fun _ _ => .int _) rfl) (fun _ z => nomatch z) rfl rfl (fun _ _ => rfl)) nd)
        (ss_cons (M1 := [.tape, .frz, .frz, .frz, (.lst .frz), .dead, .dead, .dead, .frz, .dead]) (st_expr (TO.meth (i := 4) (g := appendG) C lm_append PySem.F.slot_list_append PySem.F.type_list_append (pv 4) (TAs.cons (TO.call (io := [none, none, none]) (os := [.tm .frz, .tm .frz, .tm .frz]) C F__law_with m__law_with p__law_with Z.takes0 k__law_with.1 (TAs.cons (TO.var (pv 3) rfl) (TAs.cons (TO.bin (g := subD) (subV) (TO.var (pv 2) rfl) (TO.const pe_int fun _ _ => .int _) (fun _ z => nomatch z) rfl rfl) (TAs.cons (TO.tuple (TAs.cons (TO.call (io := [some 0, none]) (os := [.sl 0, .tm .frz]) C F__law_bad_number m__law_bad_number p__law_bad_number Z.takes0 k__law_bad_number.1 (TAs.consS (m := .tape) (pv 0) (TAs.cons (TO.var (pv 1) rfl) TAs.nil (fun _ z => nomatch z) rfl))) TAs.nil (fun _ z => nomatch z) rfl) (by simp)) TAs.nil (fun _ z => nomatch z) rfl) (fun _ z => nomatch z) rfl) (fun _ z => nomatch z) rfl)) TAs.nil (fun _ z => nomatch z) rfl) (by simp)))
        (ss_cons (M1 := [.tape, .frz, .frz, .frz, (.lst .frz), .dead, .dead, .dead, .frz, .dead]) (st_expr (TO.meth (i := 4) (g := appendG) C lm_append PySem.F.slot_list_append PySem.F.type_list_append (pv 4) (TAs.cons (TO.call (io := [none, none, none]) (os := [.tm .frz, .tm .frz, .tm .frz]) C F__law_with m__law_with p__law_with Z.takes0 k__law_with.1 (TAs.cons (TO.var (pv 3) rfl) (TAs.cons (TO.const pe_int fun _ _ => .int _) (TAs.cons (TO.bin (g := addD) (addV C.hK) (TO.sli C.hK (TO.idx C.hK (TO.var (pv 3) rfl) (TO.const pe_int fun _ _ => .int _) (fun _ z => nomatch z) rfl rfl (fun _ _ => rfl)) tpart_none (tpart_some (TO.un (g := negD) negV (TO.const pe_int fun _ _ => .int _) rfl)) (fun _ z => nomatch z) rfl) (TO.tuple (TAs.cons (TO.call (io := [some 0, none]) (os := [.sl 0, .tm .frz]) C F__law_bad_number m__law_bad_number p__law_bad_number Z.takes0 k__law_bad_number.1 (TAs.consS (m := .tape) (pv 0) (TAs.cons (TO.var (pv 1) rfl) TAs.nil (fun _ z => nomatch z) rfl))) TAs.nil (fun _ z => nomatch z) rfl) (by simp)) (fun _ z => nomatch z) rfl rfl) TAs.nil (fun _ z => nomatch z) rfl) (fun _ z => nomatch z) rfl) (fun _ z => nomatch z) rfl)) TAs.nil (fun _ z => nomatch z) rfl) (by simp)))
        (ss_cons (M1 := [.tape, .frz, .frz, .frz, (.lst .frz), .dead, .dead, .dead, .frz, .dead]) (st_expr (TO.meth (i := 4) (g := appendG) C lm_append PySem.F.slot_list_append PySem.F.type_list_append (pv 4) (TAs.cons (TO.call (io := [none, none, none]) (os := [.tm .frz, .tm .frz, .tm .frz]) C F__law_with m__law_with p__law_with Z.takes0 k__law_with.1 (TAs.cons (TO.call (io := [none, none, none]) (os := [.tm .frz, .tm .frz, .tm .frz]) C F__law_with m__law_with p__law_with Z.takes0 k__law_with.1 (TAs.cons (TO.var (pv 3) rfl) (TAs.cons (TO.const pe_int fun _ _ => .int _) (TAs.cons (TO.bin (g := addD) (addV C.hK) (TO.tuple (TAs.cons (TO.var (pv 1) rfl) TAs.nil (fun _ z => nomatch z) rfl) (by simp)) (TO.sli C.hK (TO.idx C.hK (TO.var (pv 3) rfl) (TO.const pe_int fun _ _ => .int _) (fun _ z => nomatch z) rfl rfl (fun _ _ => rfl)) (tpart_some (TO.const pe_int fun _ _ => .int _)) tpart_none (fun _ z => nomatch z) rfl) (fun _ z => nomatch z) rfl rfl) TAs.nil (fun _ z => nomatch z) rfl) (fun _ z => nomatch z) rfl) (fun _ z => nomatch z) rfl)) (TAs.cons (TO.bin (g := subD) (subV) (TO.var (pv 2) rfl) (TO.const pe_int fun _ _ => .int _) (fun _ z => nomatch z) rfl rfl) (TAs.cons (TO.bin (g := addD) (addV C.hK) (TO.var (pv 8) rfl) (TO.tuple (TAs.cons (TO.const pe_int fun _ _ => .int _) TAs.nil (fun _ z => nomatch z) rfl) (by simp)) (fun _ z => nomatch z) rfl rfl) TAs.nil (fun _ z => nomatch z) rfl) (fun _ z => nomatch z) rfl) (fun _ z => nomatch z) rfl)) TAs.nil (fun _ z => nomatch z) rfl) (by simp)))
        (ss_cons (M1 := [.tape, .frz, .frz, .frz, (.lst .frz), .dead, .dead, .dead, .frz, .frz]) (st_set (i := 9) (TO.freeze (TO.list (TAs.cons (TO.const pe_non fun _ _ => .non) (TAs.cons (TO.const pe_bl fun _ _ => .bl true) (TAs.cons (TO.const pe_int fun _ _ => .int _) (TAs.cons (TO.const pe_str fun _ _ => .str _) (TAs.cons (TO.tuple TAs.nil (by simp)) (TAs.cons (TO.freeze (TO.list TAs.nil (by simp)) rfl) (TAs.cons (TO.freeze TO.dict0K rfl) (TAs.cons (TO.freeze (TO.dict1 (TO.const pe_int fun _ _ => .int _) (TO.var (pv 3) rfl)) rfl) (TAs.cons (TO.bin (g := mulD) (mulV C.hK) (TO.const pe_str fun _ _ => .str _) (TO.var (pv 2) rfl) (fun _ z => nomatch z) rfl rfl) (TAs.cons (TO.bin (g := mulD) (mulV C.hK) (TO.tuple (TAs.cons (TO.tuple TAs.nil (by simp)) TAs.nil (fun _ z => nomatch z) rfl) (by simp)) (TO.var (pv 2) rfl) (fun _ z => nomatch z) rfl rfl) (TAs.cons (TO.bin (g := addD) (addV C.hK) (TO.var (pv 3) rfl) (TO.var (pv 3) rfl) (fun _ z => nomatch z) rfl rfl) (TAs.cons (TO.bin (g := mulD) (mulV C.hK) (TO.tuple (TAs.cons (TO.bin (g := mulD) (mulV C.hK) (TO.tuple (TAs.cons (TO.const pe_int fun _ _ => .int _) TAs.nil (fun _ z => nomatch z) rfl) (by simp)) (TO.var (pv 2) rfl) (fun _ z => nomatch z) rfl rfl) TAs.nil (fun _ z => nomatch z) rfl) (by simp)) (TO.var (pv 2) rfl) (fun _ z => nomatch z) rfl rfl) (TAs.cons (TO.bin (g := powD) (powV) (TO.const pe_int fun _ _ => .int _) (TO.const pe_int fun _ _ => .int _) (fun _ z => nomatch z) rfl rfl) TAs.nil (fun _ z => nomatch z) rfl) (fun _ z => nomatch z) rfl) (fun _ z => nomatch z) rfl) (fun _ z => nomatch z) rfl) (fun _ z => nomatch z) rfl) (fun _ z => nomatch z) rfl) (fun _ z => nomatch z) rfl) (fun _ z => nomatch z) rfl) (fun _ z => nomatch z) rfl) (fun _ z => nomatch z) rfl) (fun _ z => nomatch z) rfl) (fun _ z => nomatch z) rfl) (fun _ z => nomatch z) rfl) (by simp)) rfl) nd)
        (ss_last (st_ret (TO.binS (g := addD) (ma := (.lst .frz)) (addV C.hK) (pv 4) (TO.list (TAs.cons (TO.call (io := [some 0, none]) (os := [.sl 0, .tm .frz]) C F__law_pick m__law_pick p__law_pick Z.takes0 k__law_pick.1 (TAs.consS (m := .tape) (pv 0) (TAs.cons (TO.var (pv 9) rfl) TAs.nil (fun _ z => nomatch z) rfl))) (TAs.cons (TO.call (io := [some 0, none]) (os := [.sl 0, .tm .frz]) C F__law_pick m__law_pick p__law_pick Z.takes0 k__law_pick.1 (TAs.consS (m := .tape) (pv 0) (TAs.cons (TO.var (pv 9) rfl) TAs.nil (fun _ z => nomatch z) rfl))) TAs.nil (fun _ z => nomatch z) rfl) (fun _ z => nomatch z) rfl) (by simp)))))))))))))
abbrev N__law_are_values_right : List Str := [("bag" : Str), ("p" : Str), ("l" : Str), ("upper" : Str), ("k" : Str), ("value" : Str), ("due" : Str), ("stays" : Str), ("told" : Str)]
abbrev s__law_are_values_right : Stmt := top 39
theorem sc__law_are_values_right : FnScope N__law_are_values_right [("bag" : Str), ("p" : Str), ("l" : Str), ("upper" : Str)] (defScope s__law_are_values_right) := ⟨rfl, rfl, rfl, by decide +kernel, rfl, by decide +kernel, by decide +kernel⟩
theorem h__law_are_values_right {Pr : Program} {w : PySem.World} {P : Par2} {mg : Str → Option Value} {base : Heap} {f : Addr} {fd : FuncData} (hP : P.tp = tapeP)
    (hs : ∃ o, base.get? sysModules = some o)
    (b_enumerate : mg ("enumerate" : Str) = none)
    (b_repr : mg ("repr" : Str) = none)
    (H__law_values : HasD Pr w P mg base 6 ("_law_values" : Str) [("bag" : Str), ("p" : Str), ("l" : Str), ("upper" : Str)] (spT P [.tape, .frz, .frz, .frz] .frz v__law_values) (fun fd => KB fd [("bag" : Str), ("p" : Str), ("l" : Str), ("upper" : Str)] 4 [] [0, 1, 2, 3] ∧ True))
    (H__law_upper_fault : HasD Pr w P mg base 2 ("_law_upper_fault" : Str) [("p" : Str), ("l" : Str), ("value" : Str)] (spT P [.frz, .frz, .frz] .frz v__law_upper_fault) (fun fd => KB fd [("p" : Str), ("l" : Str), ("value" : Str)] 3 [] [0, 1, 2] ∧ True))
    (H_upper_error : HasD Pr w P mg base 3 ("upper_error" : Str) [("p" : Str), ("l" : Str), ("value" : Str)] (spT P [.frz, .frz, .frz] .frz v_upper_error) (fun fd => KB fd [("p" : Str), ("l" : Str), ("value" : Str)] 3 [] [0, 1, 2] ∧ KB fd [("p" : Str), ("l" : Str), ("value" : Str)] 0 [("value" : Str), ("l" : Str), ("p" : Str)] [2, 1, 0] ∧ True))
    (H__law_same : HasD Pr w P mg base 1 ("_law_same" : Str) [("told" : Str), ("due" : Str)] (spT P [.frz, .frz] .frz v__law_same) (fun fd => KB fd [("told" : Str), ("due" : Str)] 2 [] [0, 1] ∧ True))
    (F : FunD P.K ("_law_are_values_right" : Str) ("_law_are_values_right" : Str) (defArgs s__law_are_values_right) (defBody s__law_are_values_right) (defScope s__law_are_values_right) [] [] f fd)
    (m : mg ("_law_are_values_right" : Str) = some (.ref f)) :
    HasD Pr w P mg base 7 ("_law_are_values_right" : Str) [("bag" : Str), ("p" : Str), ("l" : Str), ("upper" : Str)] (spT P [.tape, .frz, .frz, .frz] .frz v__law_are_values_right) (fun fd => KB fd [("bag" : Str), ("p" : Str), ("l" : Str), ("upper" : Str)] 4 [] [0, 1, 2, 3] ∧ True) := by
  obtain ⟨f__law_values, fd__law_values, F__law_values, m__law_values, p__law_values, k__law_values⟩ := H__law_values
  obtain ⟨f__law_upper_fault, fd__law_upper_fault, F__law_upper_fault, m__law_upper_fault, p__law_upper_fault, k__law_upper_fault⟩ := H__law_upper_fault
  obtain ⟨f_upper_error, fd_upper_error, F_upper_error, m_upper_error, p_upper_error, k_upper_error⟩ := H_upper_error
  obtain ⟨f__law_same, fd__law_same, F__law_same, m__law_same, p__law_same, k__law_same⟩ := H__law_same
  refine ⟨f, fd, def0 (k := 6) (ms := [.tape, .frz, .frz, .frz]) (n := 5) (mr := .frz) (c := c__law_are_values_right) (Mn := [.tape, .dead, .dead, .dead, .dead, .dead, .dead, .dead, .dead]) pvFst F sc__law_are_values_right hs rfl rfl hp1 (hio1 rfl) rfl (fun cdv A outer s H E vs C => ?_), m, F.kp, kb_of F fun _ _ _ _ _ _ us ws hu hw => match us, ws, hu, hw with | [_, _, _, _], [], _, _ => rfl, trivial⟩
  have nd := sc__law_are_values_right.nd
  exact (ss_cons (M1 := [.tape, .frz, .frz, .frz, .dead, .dead, .dead, .dead, .dead]) (st_for (Ml := [.tape, .frz, .frz, .frz, .dead, .dead, .dead, .dead, .dead]) (Mn := [.tape, .frz, .frz, .frz, .dead, .dead, .dead, .dead, .dead]) (f := b__law_are_values_right_1) C never (is_enum C rfl b_enumerate (TAs.cons (TO.call (io := [some 0, none, none, none]) (os := [.sl 0, .tm .frz, .tm .frz, .tm .frz]) C F__law_values m__law_values p__law_values Z.takes0 k__law_values.1 (TAs.consS (m := .tape) (pv 0) (TAs.cons (TO.var (pv 1) rfl) (TAs.cons (TO.var (pv 2) rfl) (TAs.cons (TO.var (pv 3) rfl) TAs.nil (fun _ z => nomatch z) rfl) (fun _ z => nomatch z) rfl) (fun _ z => nomatch z) rfl))) TAs.nil (fun _ z => nomatch z) rfl)) (tg_ch (tg_tupP C (tgs_cons (tg_name (i := 4) nd) (tgs_cons (tg_name (i := 5) nd) tgs_nil)))) (ss_weak (M1 := [.tape, .frz, .frz, .frz, .frz, .frz, .frz, .frz, .frz]) (ss_cons (M1 := [.tape, .frz, .frz, .frz, .frz, .frz, .frz, .frz, .dead]) (st_par2 (i := 6) (j := 7) C nd (TAs.cons (TO.call (io := [none, none, none]) (os := [.tm .frz, .tm .frz, .tm .frz]) C F__law_upper_fault m__law_upper_fault p__law_upper_fault Z.takes0 k__law_upper_fault.1 (TAs.cons (TO.var (pv 1) rfl) (TAs.cons (TO.var (pv 2) rfl) (TAs.cons (TO.var (pv 5) rfl) TAs.nil (fun _ z => nomatch z) rfl) (fun _ z => nomatch z) rfl) (fun _ z => nomatch z) rfl)) (TAs.cons (TO.callB (g := one reprD) (reprV C.hK C.hs C.hg C.u66) rfl b_repr bt_repr (TAs.cons (TO.var (pv 5) rfl) TAs.nil (fun _ z => nomatch z) rfl) rfl (by decide) (by decide) rfl rfl) TAs.nil (fun _ z => nomatch z) rfl) (fun _ z => nomatch z) rfl))
        (ss_cons (M1 := [.tape, .frz, .frz, .frz, .frz, .frz, .frz, .frz, .frz]) (st_set (i := 8) (TO.freeze (TO.list (TAs.cons (TO.call (io := [none, none, none]) (os := [.tm .frz, .tm .frz, .tm .frz]) C F_upper_error m_upper_error p_upper_error Z.takes0 k_upper_error.1 (TAs.cons (TO.var (pv 1) rfl) (TAs.cons (TO.var (pv 2) rfl) (TAs.cons (TO.var (pv 5) rfl) TAs.nil (fun _ z => nomatch z) rfl) (fun _ z => nomatch z) rfl) (fun _ z => nomatch z) rfl)) (TAs.cons (TO.callK0 (io := [none, none, none]) (ok := [.tm .frz, .tm .frz, .tm .frz]) C F_upper_error m_upper_error p_upper_error Z.takes0 k_upper_error.2.1 (TKs.cons (TO.var (pv 5) rfl) (TKs.cons (TO.var (pv 2) rfl) (TKs.cons (TO.var (pv 1) rfl) TKs.nil (fun _ z => nomatch z)) (fun _ z => nomatch z)) (fun _ z => nomatch z))) TAs.nil (fun _ z => nomatch z) rfl) (fun _ z => nomatch z) rfl) (by simp)) rfl) nd)
        (ss_last (st_if (PW.pt (tw_or (tt_not (tt_val (TO.call (io := [none, none]) (os := [.tm .frz, .tm .frz]) C F__law_same m__law_same p__law_same Z.takes0 k__law_same.1 (TAs.cons (TO.var (pv 8) rfl) (TAs.cons (TO.freeze (TO.list (TAs.cons (TO.var (pv 6) rfl) (TAs.cons (TO.var (pv 6) rfl) TAs.nil (fun _ z => nomatch z) rfl) (fun _ z => nomatch z) rfl) (by simp)) rfl) TAs.nil (fun _ z => nomatch z) rfl) (fun _ z => nomatch z) rfl)) fun _ => rfl)) (tw_or1 (tt_cmp (g := neD) (neV C.hK (by have := C.hr.un; omega)) rfl (TO.callB (g := one reprD) (reprV C.hK C.hs C.hg C.u66) rfl b_repr bt_repr (TAs.cons (TO.var (pv 5) rfl) TAs.nil (fun _ z => nomatch z) rfl) rfl (by decide) (by decide) rfl rfl) (TO.var (pv 7) rfl) (fun _ z => nomatch z) rfl rfl)))) (ss_last (st_ret (TO.const pe_bl fun _ _ => .bl false))) ss_nil))))))
        (ss_last (st_ret (TO.const pe_bl fun _ _ => .bl true))))
abbrev N_law : List Str := [("script" : Str), ("bag" : Str), ("turn" : Str), ("p" : Str), ("l" : Str), ("one" : Str), ("other" : Str), ("kept" : Str)]
abbrev s_law : Stmt := top 43
theorem sc_law : FnScope N_law [("script" : Str)] (defScope s_law) := ⟨rfl, rfl, rfl, by decide +kernel, rfl, by decide +kernel, by decide +kernel⟩
theorem h_law {Pr : Program} {w : PySem.World} {P : Par2} {mg : Str → Option Value} {base : Heap} {f : Addr} {fd : FuncData} (hP : P.tp = tapeP)
    (hs : ∃ o, base.get? sysModules = some o)
    (b_range : mg ("range" : Str) = none)
    (b_repr : mg ("repr" : Str) = none)
    (H__law_bag : HasD Pr w P mg base 1 ("_law_bag" : Str) [("script" : Str)] (spT P [.scr] .tape v__law_bag) (fun fd => KB fd [("script" : Str)] 1 [] [0] ∧ True))
    (H__law_pick : HasD Pr w P mg base 2 ("_law_pick" : Str) [("bag" : Str), ("some" : Str)] (spT P [.tape, .frz] .frz v__law_pick) (fun fd => KB fd [("bag" : Str), ("some" : Str)] 2 [] [0, 1] ∧ True))
    (H__law_upper : HasD Pr w P mg base 4 ("_law_upper" : Str) [("bag" : Str), ("p" : Str), ("l" : Str)] (spT P [.tape, .frz, .frz] .frz v__law_upper) (fun fd => KB fd [("bag" : Str), ("p" : Str), ("l" : Str)] 3 [] [0, 1, 2] ∧ True))
    (H__law_are_items_right : HasD Pr w P mg base 2 ("_law_are_items_right" : Str) [("bag" : Str), ("l" : Str), ("upper" : Str)] (spT P [.tape, .frz, .frz] .frz v__law_are_items_right) (fun fd => KB fd [("bag" : Str), ("l" : Str), ("upper" : Str)] 3 [] [0, 1, 2] ∧ True))
    (H__law_are_sums_right : HasD Pr w P mg base 4 ("_law_are_sums_right" : Str) [("bag" : Str), ("p" : Str), ("l" : Str), ("one" : Str), ("other" : Str)] (spT P [.tape, .frz, .frz, .frz, .frz] .frz v__law_are_sums_right) (fun fd => KB fd [("bag" : Str), ("p" : Str), ("l" : Str), ("one" : Str), ("other" : Str)] 5 [] [0, 1, 2, 3, 4] ∧ True))
    (H__law_are_places_right : HasD Pr w P mg base 4 ("_law_are_places_right" : Str) [("bag" : Str), ("p" : Str), ("l" : Str), ("upper" : Str)] (spT P [.tape, .frz, .frz, .frz] .frz v__law_are_places_right) (fun fd => KB fd [("bag" : Str), ("p" : Str), ("l" : Str), ("upper" : Str)] 4 [] [0, 1, 2, 3] ∧ True))
    (H__law_are_values_right : HasD Pr w P mg base 7 ("_law_are_values_right" : Str) [("bag" : Str), ("p" : Str), ("l" : Str), ("upper" : Str)] (spT P [.tape, .frz, .frz, .frz] .frz v__law_are_values_right) (fun fd => KB fd [("bag" : Str), ("p" : Str), ("l" : Str), ("upper" : Str)] 4 [] [0, 1, 2, 3] ∧ True))
    (F : FunD P.K ("law" : Str) ("law" : Str) (defArgs s_law) (defBody s_law) (defScope s_law) [] [] f fd)
    (m : mg ("law" : Str) = some (.ref f)) :
    FnT Pr w P.K mg base 8 f fd [("script" : Str)] (spT P [.scr] .frz v_law) := by
  obtain ⟨f__law_bag, fd__law_bag, F__law_bag, m__law_bag, p__law_bag, k__law_bag⟩ := H__law_bag
  obtain ⟨f__law_pick, fd__law_pick, F__law_pick, m__law_pick, p__law_pick, k__law_pick⟩ := H__law_pick
  obtain ⟨f__law_upper, fd__law_upper, F__law_upper, m__law_upper, p__law_upper, k__law_upper⟩ := H__law_upper
  obtain ⟨f__law_are_items_right, fd__law_are_items_right, F__law_are_items_right, m__law_are_items_right, p__law_are_items_right, k__law_are_items_right⟩ := H__law_are_items_right
  obtain ⟨f__law_are_sums_right, fd__law_are_sums_right, F__law_are_sums_right, m__law_are_sums_right, p__law_are_sums_right, k__law_are_sums_right⟩ := H__law_are_sums_right
  obtain ⟨f__law_are_places_right, fd__law_are_places_right, F__law_are_places_right, m__law_are_places_right, p__law_are_places_right, k__law_are_places_right⟩ := H__law_are_places_right
  obtain ⟨f__law_are_values_right, fd__law_are_values_right, F__law_are_values_right, m__law_are_values_right, p__law_are_values_right, k__law_are_values_right⟩ := H__law_are_values_right
  refine def0 (k := 7) (ms := [.scr]) (n := 7) (mr := .frz) (c := c_law) (Mn := [.scr, .dead, .dead, .dead, .dead, .dead, .dead, .dead]) pvFst F sc_law hs rfl rfl hp1 (hio1 rfl) rfl (fun cdv A outer s H E vs C => ?_)
  have nd := sc_law.nd
  exact (ss_cons (M1 := [.scr, .tape, .dead, .dead, .dead, .dead, .dead, .dead]) (st_set (i := 1) (TO.call (io := [some 0]) (os := [.sl 0]) C F__law_bag m__law_bag p__law_bag Z.takes0 k__law_bag.1 (TAs.consS (m := .scr) (pv 0) TAs.nil)) nd)
        (ss_cons (M1 := [.scr, .tape, .dead, .dead, .dead, .dead, .dead, .dead]) (st_for (Ml := [.scr, .tape, .dead, .dead, .dead, .dead, .dead, .dead]) (Mn := [.scr, .tape, .dead, .dead, .dead, .dead, .dead, .dead]) (f := b_law_1) C never (rng1_post rfl b_range (TAs.cons (TO.const pe_int fun _ _ => .int _) TAs.nil (fun _ z => nomatch z) rfl)) (tg_name (i := 2) nd) (ss_weak (M1 := [.scr, .tape, .frz, .frz, .frz, .frz, .frz, .frz]) (ss_cons (M1 := [.scr, .tape, .frz, .frz, .frz, .dead, .dead, .dead]) (st_par2 (i := 3) (j := 4) C nd (TAs.cons (TO.call (io := [some 1, none]) (os := [.sl 1, .tm .frz]) C F__law_pick m__law_pick p__law_pick Z.takes0 k__law_pick.1 (TAs.consS (m := .tape) (pv 1) (TAs.cons (TO.freeze (TO.list (TAs.cons (TO.const pe_int fun _ _ => .int _) (TAs.cons (TO.const pe_int fun _ _ => .int _) (TAs.cons (TO.const pe_int fun _ _ => .int _) (TAs.cons (TO.const pe_int fun _ _ => .int _) TAs.nil (fun _ z => nomatch z) rfl) (fun _ z => nomatch z) rfl) (fun _ z => nomatch z) rfl) (fun _ z => nomatch z) rfl) (by simp)) rfl) TAs.nil (fun _ z => nomatch z) rfl))) (TAs.cons (TO.call (io := [some 1, none]) (os := [.sl 1, .tm .frz]) C F__law_pick m__law_pick p__law_pick Z.takes0 k__law_pick.1 (TAs.consS (m := .tape) (pv 1) (TAs.cons (TO.freeze (TO.list (TAs.cons (TO.const pe_int fun _ _ => .int _) (TAs.cons (TO.const pe_int fun _ _ => .int _) (TAs.cons (TO.const pe_int fun _ _ => .int _) (TAs.cons (TO.const pe_int fun _ _ => .int _) (TAs.cons (TO.const pe_int fun _ _ => .int _) (TAs.cons (TO.const pe_int fun _ _ => .int _) (TAs.cons (TO.const pe_int fun _ _ => .int _) (TAs.cons (TO.const pe_int fun _ _ => .int _) (TAs.cons (TO.const pe_int fun _ _ => .int _) (TAs.cons (TO.const pe_int fun _ _ => .int _) (TAs.cons (TO.const pe_int fun _ _ => .int _) TAs.nil (fun _ z => nomatch z) rfl) (fun _ z => nomatch z) rfl) (fun _ z => nomatch z) rfl) (fun _ z => nomatch z) rfl) (fun _ z => nomatch z) rfl) (fun _ z => nomatch z) rfl) (fun _ z => nomatch z) rfl) (fun _ z => nomatch z) rfl) (fun _ z => nomatch z) rfl) (fun _ z => nomatch z) rfl) (fun _ z => nomatch z) rfl) (by simp)) rfl) TAs.nil (fun _ z => nomatch z) rfl))) TAs.nil (fun _ z => nomatch z) rfl) (fun _ z => nomatch z) rfl))
        (ss_cons (M1 := [.scr, .tape, .frz, .frz, .frz, .frz, .frz, .dead]) (st_par2 (i := 5) (j := 6) C nd (TAs.cons (TO.call (io := [some 1, none, none]) (os := [.sl 1, .tm .frz, .tm .frz]) C F__law_upper m__law_upper p__law_upper Z.takes0 k__law_upper.1 (TAs.consS (m := .tape) (pv 1) (TAs.cons (TO.var (pv 3) rfl) (TAs.cons (TO.var (pv 4) rfl) TAs.nil (fun _ z => nomatch z) rfl) (fun _ z => nomatch z) rfl))) (TAs.cons (TO.call (io := [some 1, none, none]) (os := [.sl 1, .tm .frz, .tm .frz]) C F__law_upper m__law_upper p__law_upper Z.takes0 k__law_upper.1 (TAs.consS (m := .tape) (pv 1) (TAs.cons (TO.var (pv 3) rfl) (TAs.cons (TO.var (pv 4) rfl) TAs.nil (fun _ z => nomatch z) rfl) (fun _ z => nomatch z) rfl))) TAs.nil (fun _ z => nomatch z) rfl) (fun _ z => nomatch z) rfl))
        (ss_cons (M1 := [.scr, .tape, .frz, .frz, .frz, .frz, .frz, .frz]) (st_set (i := 7) (TO.callB (g := one reprD) (reprV C.hK C.hs C.hg C.u66) rfl b_repr bt_repr (TAs.cons (TO.list (TAs.cons (TO.var (pv 5) rfl) (TAs.cons (TO.var (pv 6) rfl) TAs.nil (fun _ z => nomatch z) rfl) (fun _ z => nomatch z) rfl) (by simp)) TAs.nil (fun _ z => nomatch z) rfl) rfl (by decide) (by decide) rfl rfl) nd)
        (ss_cons (M1 := [.scr, .tape, .frz, .frz, .frz, .frz, .frz, .frz]) (st_if (PW.pt (tw_or (tt_not (tt_val (TO.call (io := [some 1, none, none]) (os := [.sl 1, .tm .frz, .tm .frz]) C F__law_are_items_right m__law_are_items_right p__law_are_items_right Z.takes0 k__law_are_items_right.1 (TAs.consS (m := .tape) (pv 1) (TAs.cons (TO.var (pv 4) rfl) (TAs.cons (TO.var (pv 5) rfl) TAs.nil (fun _ z => nomatch z) rfl) (fun _ z => nomatch z) rfl))) fun _ => rfl)) (tw_or1 (tt_not (tt_val (TO.call (io := [some 1, none, none, none, none]) (os := [.sl 1, .tm .frz, .tm .frz, .tm .frz, .tm .frz]) C F__law_are_sums_right m__law_are_sums_right p__law_are_sums_right Z.takes0 k__law_are_sums_right.1 (TAs.consS (m := .tape) (pv 1) (TAs.cons (TO.var (pv 3) rfl) (TAs.cons (TO.var (pv 4) rfl) (TAs.cons (TO.var (pv 5) rfl) (TAs.cons (TO.var (pv 6) rfl) TAs.nil (fun _ z => nomatch z) rfl) (fun _ z => nomatch z) rfl) (fun _ z => nomatch z) rfl) (fun _ z => nomatch z) rfl))) fun _ => rfl))))) (ss_last (st_ret (TO.const pe_bl fun _ _ => .bl false))) ss_nil)
        (ss_cons (M1 := [.scr, .tape, .frz, .frz, .frz, .frz, .frz, .frz]) (st_if (PW.pt (tw_or (tt_not (tt_val (TO.call (io := [some 1, none, none, none]) (os := [.sl 1, .tm .frz, .tm .frz, .tm .frz]) C F__law_are_places_right m__law_are_places_right p__law_are_places_right Z.takes0 k__law_are_places_right.1 (TAs.consS (m := .tape) (pv 1) (TAs.cons (TO.var (pv 3) rfl) (TAs.cons (TO.var (pv 4) rfl) (TAs.cons (TO.var (pv 5) rfl) TAs.nil (fun _ z => nomatch z) rfl) (fun _ z => nomatch z) rfl) (fun _ z => nomatch z) rfl))) fun _ => rfl)) (tw_or1 (tt_not (tt_val (TO.call (io := [some 1, none, none, none]) (os := [.sl 1, .tm .frz, .tm .frz, .tm .frz]) C F__law_are_places_right m__law_are_places_right p__law_are_places_right Z.takes0 k__law_are_places_right.1 (TAs.consS (m := .tape) (pv 1) (TAs.cons (TO.var (pv 3) rfl) (TAs.cons (TO.var (pv 4) rfl) (TAs.cons (TO.var (pv 6) rfl) TAs.nil (fun _ z => nomatch z) rfl) (fun _ z => nomatch z) rfl) (fun _ z => nomatch z) rfl))) fun _ => rfl))))) (ss_last (st_ret (TO.const pe_bl fun _ _ => .bl false))) ss_nil)
        (ss_cons (M1 := [.scr, .tape, .frz, .frz, .frz, .frz, .frz, .frz]) (st_if (PW.pt (tw_or (tt_not (tt_val (TO.call (io := [some 1, none, none, none]) (os := [.sl 1, .tm .frz, .tm .frz, .tm .frz]) C F__law_are_values_right m__law_are_values_right p__law_are_values_right Z.takes0 k__law_are_values_right.1 (TAs.consS (m := .tape) (pv 1) (TAs.cons (TO.var (pv 3) rfl) (TAs.cons (TO.var (pv 4) rfl) (TAs.cons (TO.var (pv 6) rfl) TAs.nil (fun _ z => nomatch z) rfl) (fun _ z => nomatch z) rfl) (fun _ z => nomatch z) rfl))) fun _ => rfl)) (tw_or1 (tt_not (tt_val (TO.call (io := [some 1, none, none]) (os := [.sl 1, .tm .frz, .tm .frz]) C F__law_are_items_right m__law_are_items_right p__law_are_items_right Z.takes0 k__law_are_items_right.1 (TAs.consS (m := .tape) (pv 1) (TAs.cons (TO.var (pv 4) rfl) (TAs.cons (TO.var (pv 6) rfl) TAs.nil (fun _ z => nomatch z) rfl) (fun _ z => nomatch z) rfl))) fun _ => rfl))))) (ss_last (st_ret (TO.const pe_bl fun _ _ => .bl false))) ss_nil)
        (ss_last (st_if (tt_cmp (g := neD) (neV C.hK (by have := C.hr.un; omega)) rfl (TO.callB (g := one reprD) (reprV C.hK C.hs C.hg C.u66) rfl b_repr bt_repr (TAs.cons (TO.list (TAs.cons (TO.var (pv 5) rfl) (TAs.cons (TO.var (pv 6) rfl) TAs.nil (fun _ z => nomatch z) rfl) (fun _ z => nomatch z) rfl) (by simp)) TAs.nil (fun _ z => nomatch z) rfl) rfl (by decide) (by decide) rfl rfl) (TO.var (pv 7) rfl) (fun _ z => nomatch z) rfl rfl) (ss_last (st_ret (TO.const pe_bl fun _ _ => .bl false))) ss_nil))))))))))
        (ss_last (st_ret (TO.const pe_bl fun _ _ => .bl true)))))
end
end K18

set_option maxRecDepth 100000
set_option maxHeartbeats 0
namespace K18.E
open PySem PySem.Spec PyProof.Rows L2 Z PySem.W PySem.Calls
noncomputable section
def d_is_integer : He.DefD := ⟨(("is_integer" : Str), none), ("is_integer" : Str), ("is_integer" : Str), defArgs s_is_integer, defBody s_is_integer, defScope s_is_integer, [], []⟩
def d_row_place : He.DefD := ⟨(("row_place" : Str), none), ("row_place" : Str), ("row_place" : Str), defArgs s_row_place, defBody s_row_place, defScope s_row_place, [], []⟩
def d_row_at : He.DefD := ⟨(("row_at" : Str), none), ("row_at" : Str), ("row_at" : Str), defArgs s_row_at, defBody s_row_at, defScope s_row_at, [], []⟩
def d_upper_item : He.DefD := ⟨(("upper_item" : Str), none), ("upper_item" : Str), ("upper_item" : Str), defArgs s_upper_item, defBody s_upper_item, defScope s_upper_item, [], []⟩
def d_uppers_added : He.DefD := ⟨(("uppers_added" : Str), none), ("uppers_added" : Str), ("uppers_added" : Str), defArgs s_uppers_added, defBody s_uppers_added, defScope s_uppers_added, [], []⟩
def d_uppers_scaled : He.DefD := ⟨(("uppers_scaled" : Str), none), ("uppers_scaled" : Str), ("uppers_scaled" : Str), defArgs s_uppers_scaled, defBody s_uppers_scaled, defScope s_uppers_scaled, [], []⟩
def d_plain_upper : He.DefD := ⟨(("plain_upper" : Str), none), ("plain_upper" : Str), ("plain_upper" : Str), defArgs s_plain_upper, defBody s_plain_upper, defScope s_plain_upper, [], []⟩
def d_laid_upper : He.DefD := ⟨(("laid_upper" : Str), none), ("laid_upper" : Str), ("laid_upper" : Str), defArgs s_laid_upper, defBody s_laid_upper, defScope s_laid_upper, [], []⟩
def d_upper_of_laid : He.DefD := ⟨(("upper_of_laid" : Str), none), ("upper_of_laid" : Str), ("upper_of_laid" : Str), defArgs s_upper_of_laid, defBody s_upper_of_laid, defScope s_upper_of_laid, [], []⟩
def d_items_number : He.DefD := ⟨(("items_number" : Str), none), ("items_number" : Str), ("items_number" : Str), defArgs s_items_number, defBody s_items_number, defScope s_items_number, [], []⟩
def d__law_bag : He.DefD := ⟨(("_law_bag" : Str), none), ("_law_bag" : Str), ("_law_bag" : Str), defArgs s__law_bag, defBody s__law_bag, defScope s__law_bag, [], []⟩
def d__law_draw : He.DefD := ⟨(("_law_draw" : Str), none), ("_law_draw" : Str), ("_law_draw" : Str), defArgs s__law_draw, defBody s__law_draw, defScope s__law_draw, [], []⟩
def d__law_same : He.DefD := ⟨(("_law_same" : Str), none), ("_law_same" : Str), ("_law_same" : Str), defArgs s__law_same, defBody s__law_same, defScope s__law_same, [], []⟩
def d__law_cut : He.DefD := ⟨(("_law_cut" : Str), none), ("_law_cut" : Str), ("_law_cut" : Str), defArgs s__law_cut, defBody s__law_cut, defScope s__law_cut, [], []⟩
def d__law_power : He.DefD := ⟨(("_law_power" : Str), none), ("_law_power" : Str), ("_law_power" : Str), defArgs s__law_power, defBody s__law_power, defScope s__law_power, [], []⟩
def d__law_digits : He.DefD := ⟨(("_law_digits" : Str), none), ("_law_digits" : Str), ("_law_digits" : Str), defArgs s__law_digits, defBody s__law_digits, defScope s__law_digits, [], []⟩
def d__law_place : He.DefD := ⟨(("_law_place" : Str), none), ("_law_place" : Str), ("_law_place" : Str), defArgs s__law_place, defBody s__law_place, defScope s__law_place, [], []⟩
def d__law_laid : He.DefD := ⟨(("_law_laid" : Str), none), ("_law_laid" : Str), ("_law_laid" : Str), defArgs s__law_laid, defBody s__law_laid, defScope s__law_laid, [], []⟩
def d__law_is_number : He.DefD := ⟨(("_law_is_number" : Str), none), ("_law_is_number" : Str), ("_law_is_number" : Str), defArgs s__law_is_number, defBody s__law_is_number, defScope s__law_is_number, [], []⟩
def d__law_with : He.DefD := ⟨(("_law_with" : Str), none), ("_law_with" : Str), ("_law_with" : Str), defArgs s__law_with, defBody s__law_with, defScope s__law_with, [], []⟩
def d_is_number : He.DefD := ⟨(("is_number" : Str), none), ("is_number" : Str), ("is_number" : Str), defArgs s_is_number, defBody s_is_number, defScope s_is_number, [], []⟩
def d_uppers_number : He.DefD := ⟨(("uppers_number" : Str), none), ("uppers_number" : Str), ("uppers_number" : Str), defArgs s_uppers_number, defBody s_uppers_number, defScope s_uppers_number, [], []⟩
def d_upper_at : He.DefD := ⟨(("upper_at" : Str), none), ("upper_at" : Str), ("upper_at" : Str), defArgs s_upper_at, defBody s_upper_at, defScope s_upper_at, [], []⟩
def d_upper_place : He.DefD := ⟨(("upper_place" : Str), none), ("upper_place" : Str), ("upper_place" : Str), defArgs s_upper_place, defBody s_upper_place, defScope s_upper_place, [], []⟩
def d__law_pick : He.DefD := ⟨(("_law_pick" : Str), none), ("_law_pick" : Str), ("_law_pick" : Str), defArgs s__law_pick, defBody s__law_pick, defScope s__law_pick, [], []⟩
def d__law_upper_of : He.DefD := ⟨(("_law_upper_of" : Str), none), ("_law_upper_of" : Str), ("_law_upper_of" : Str), defArgs s__law_upper_of, defBody s__law_upper_of, defScope s__law_upper_of, [], []⟩
def d__law_upper_fault : He.DefD := ⟨(("_law_upper_fault" : Str), none), ("_law_upper_fault" : Str), ("_law_upper_fault" : Str), defArgs s__law_upper_fault, defBody s__law_upper_fault, defScope s__law_upper_fault, [], []⟩
def d__law_are_items_right : He.DefD := ⟨(("_law_are_items_right" : Str), none), ("_law_are_items_right" : Str), ("_law_are_items_right" : Str), defArgs s__law_are_items_right, defBody s__law_are_items_right, defScope s__law_are_items_right, [], []⟩
def d_upper_error : He.DefD := ⟨(("upper_error" : Str), none), ("upper_error" : Str), ("upper_error" : Str), defArgs s_upper_error, defBody s_upper_error, defScope s_upper_error, [], []⟩
def d__law_numbers : He.DefD := ⟨(("_law_numbers" : Str), none), ("_law_numbers" : Str), ("_law_numbers" : Str), defArgs s__law_numbers, defBody s__law_numbers, defScope s__law_numbers, [], []⟩
def d__law_added : He.DefD := ⟨(("_law_added" : Str), none), ("_law_added" : Str), ("_law_added" : Str), defArgs s__law_added, defBody s__law_added, defScope s__law_added, [], []⟩
def d__law_bad_number : He.DefD := ⟨(("_law_bad_number" : Str), none), ("_law_bad_number" : Str), ("_law_bad_number" : Str), defArgs s__law_bad_number, defBody s__law_bad_number, defScope s__law_bad_number, [], []⟩
def d__law_upper : He.DefD := ⟨(("_law_upper" : Str), none), ("_law_upper" : Str), ("_law_upper" : Str), defArgs s__law_upper, defBody s__law_upper, defScope s__law_upper, [], []⟩
def d__law_bad_row : He.DefD := ⟨(("_law_bad_row" : Str), none), ("_law_bad_row" : Str), ("_law_bad_row" : Str), defArgs s__law_bad_row, defBody s__law_bad_row, defScope s__law_bad_row, [], []⟩
def d__law_are_sums_right : He.DefD := ⟨(("_law_are_sums_right" : Str), none), ("_law_are_sums_right" : Str), ("_law_are_sums_right" : Str), defArgs s__law_are_sums_right, defBody s__law_are_sums_right, defScope s__law_are_sums_right, [], []⟩
def d__law_are_places_right : He.DefD := ⟨(("_law_are_places_right" : Str), none), ("_law_are_places_right" : Str), ("_law_are_places_right" : Str), defArgs s__law_are_places_right, defBody s__law_are_places_right, defScope s__law_are_places_right, [], []⟩
def d__law_bad_upper : He.DefD := ⟨(("_law_bad_upper" : Str), none), ("_law_bad_upper" : Str), ("_law_bad_upper" : Str), defArgs s__law_bad_upper, defBody s__law_bad_upper, defScope s__law_bad_upper, [], []⟩
def d__law_values : He.DefD := ⟨(("_law_values" : Str), none), ("_law_values" : Str), ("_law_values" : Str), defArgs s__law_values, defBody s__law_values, defScope s__law_values, [], []⟩
def d__law_are_values_right : He.DefD := ⟨(("_law_are_values_right" : Str), none), ("_law_are_values_right" : Str), ("_law_are_values_right" : Str), defArgs s__law_are_values_right, defBody s__law_are_values_right, defScope s__law_are_values_right, [], []⟩
def d_law : He.DefD := ⟨(("law" : Str), none), ("law" : Str), ("law" : Str), defArgs s_law, defBody s_law, defScope s_law, [], []⟩
def fn : List He.DefD := [d_is_integer, d_row_place, d_row_at, d_upper_item, d_uppers_added, d_uppers_scaled, d_plain_upper, d_laid_upper, d_upper_of_laid, d_items_number, d__law_bag, d__law_draw, d__law_same, d__law_cut, d__law_power, d__law_digits, d__law_place, d__law_laid, d__law_is_number, d__law_with, d_is_number, d_uppers_number, d_upper_at, d_upper_place, d__law_pick, d__law_upper_of, d__law_upper_fault, d__law_are_items_right, d_upper_error, d__law_numbers, d__law_added, d__law_bad_number, d__law_upper, d__law_bad_row, d__law_are_sums_right, d__law_are_places_right, d__law_bad_upper, d__law_values, d__law_are_values_right, d_law]
def fa : List He.Fa := [.glo ("is_integer" : Str), .glo ("row_place" : Str), .glo ("row_at" : Str), .glo ("upper_item" : Str), .glo ("uppers_added" : Str), .glo ("uppers_scaled" : Str), .glo ("plain_upper" : Str), .glo ("laid_upper" : Str), .glo ("upper_of_laid" : Str), .glo ("items_number" : Str), .glo ("_law_bag" : Str), .glo ("_law_draw" : Str), .glo ("_law_same" : Str), .glo ("_law_cut" : Str), .glo ("_law_power" : Str), .glo ("_law_digits" : Str), .glo ("_law_place" : Str), .glo ("_law_laid" : Str), .glo ("_law_is_number" : Str), .glo ("_law_with" : Str), .glo ("is_number" : Str), .glo ("uppers_number" : Str), .glo ("upper_at" : Str), .glo ("upper_place" : Str), .glo ("_law_pick" : Str), .glo ("_law_upper_of" : Str), .glo ("_law_upper_fault" : Str), .glo ("_law_are_items_right" : Str), .glo ("upper_error" : Str), .glo ("_law_numbers" : Str), .glo ("_law_added" : Str), .glo ("_law_bad_number" : Str), .glo ("_law_upper" : Str), .glo ("_law_bad_row" : Str), .glo ("_law_are_sums_right" : Str), .glo ("_law_are_places_right" : Str), .glo ("_law_bad_upper" : Str), .glo ("_law_values" : Str), .glo ("_law_are_values_right" : Str), .glo ("law" : Str), .free ("abs" : Str), .free ("bool" : Str), .free ("enumerate" : Str), .free ("int" : Str), .free ("isinstance" : Str), .free ("len" : Str), .free ("list" : Str), .free ("min" : Str), .free ("range" : Str), .free ("repr" : Str), .free ("set" : Str), .free ("sorted" : Str), .free ("tuple" : Str), .free ("zip" : Str)]
abbrev Rw : PySem.W.OpenRow := PySem.W.OpenLaw.row PySem.Challenge.rw_eachsaysonce_k18_whole_uppers
abbrev hk : PySem.W.Hook := hookZ 4 fa fn
def ob (s : PySem.W.SharedT) : He.AlD × Bool := (He.obsDG 4 fa fn (HandSHeadRun.getT s), sysB (HandSHeadRun.getT s))
theorem ob_eq (s : PySem.W.SharedT) : ob s = hk.obs s.abs := hookZ_eq (HandSHeadRun.getT_eq s)
def loose : List Str := [("is_integer" : Str), ("is_number" : Str), ("row_place" : Str), ("row_at" : Str), ("upper_error" : Str), ("upper_item" : Str), ("uppers_added" : Str), ("uppers_scaled" : Str), ("plain_upper" : Str), ("laid_upper" : Str), ("upper_of_laid" : Str), ("items_number" : Str), ("uppers_number" : Str), ("upper_at" : Str), ("upper_place" : Str), ("_law_bag" : Str), ("_law_draw" : Str), ("_law_pick" : Str), ("_law_same" : Str), ("_law_numbers" : Str), ("_law_cut" : Str), ("_law_power" : Str), ("_law_digits" : Str), ("_law_place" : Str), ("_law_upper_of" : Str), ("_law_upper" : Str), ("_law_laid" : Str), ("_law_added" : Str), ("_law_is_number" : Str), ("_law_upper_fault" : Str), ("_law_with" : Str), ("_law_bad_number" : Str), ("_law_bad_row" : Str), ("_law_bad_upper" : Str), ("_law_values" : Str), ("_law_are_values_right" : Str), ("_law_are_items_right" : Str), ("_law_are_sums_right" : Str), ("_law_are_places_right" : Str)]
theorem run (w : PySem.World) : HandSHeadRun.RunEq Rw (PySem.W.view Rw.prog [43]) hk ob 4000 loose w := by
  intro os
  kernel_rfl
/-- the law of every list of at most 63 ints -/
theorem facts {w : PySem.World} {K : PySem.W.Frag} {h : Heap} {mg : Str → Option Value} {f : Addr} (X : K.In h) (G : h.Ns mainGlobals mg) (hfa : mg ("law" : Str) = some (.ref f)) (c : He.SaysD fa fn K) :
    ∃ fd : FuncData, (∀ (s : Shared) (v : Value), BindsTo s fd ⟨[v], []⟩ [("script", v)]) ∧ ∀ base : Heap, (∃ o, base.get? sysModules = some o) → FnT PySem.Challenge.pw_eachsaysonce_k18_whole_uppers w K mg base 8 f fd ["script"] (spT { K := K, tp := tapeP, ec := fun _ => 0, ef := fun _ => [] } [.scr] .frz v_law) := by
  obtain ⟨fd_is_integer, F_is_integer⟩ := c.def_ 0 (d := d_is_integer) rfl
  have m_is_integer := He.glo_ok X G (c.fact 0 (f := .glo ("is_integer" : Str)) rfl)
  obtain ⟨fd_row_place, F_row_place⟩ := c.def_ 1 (d := d_row_place) rfl
  have m_row_place := He.glo_ok X G (c.fact 1 (f := .glo ("row_place" : Str)) rfl)
  obtain ⟨fd_row_at, F_row_at⟩ := c.def_ 2 (d := d_row_at) rfl
  have m_row_at := He.glo_ok X G (c.fact 2 (f := .glo ("row_at" : Str)) rfl)
  obtain ⟨fd_upper_item, F_upper_item⟩ := c.def_ 3 (d := d_upper_item) rfl
  have m_upper_item := He.glo_ok X G (c.fact 3 (f := .glo ("upper_item" : Str)) rfl)
  obtain ⟨fd_uppers_added, F_uppers_added⟩ := c.def_ 4 (d := d_uppers_added) rfl
  have m_uppers_added := He.glo_ok X G (c.fact 4 (f := .glo ("uppers_added" : Str)) rfl)
  obtain ⟨fd_uppers_scaled, F_uppers_scaled⟩ := c.def_ 5 (d := d_uppers_scaled) rfl
  have m_uppers_scaled := He.glo_ok X G (c.fact 5 (f := .glo ("uppers_scaled" : Str)) rfl)
  obtain ⟨fd_plain_upper, F_plain_upper⟩ := c.def_ 6 (d := d_plain_upper) rfl
  have m_plain_upper := He.glo_ok X G (c.fact 6 (f := .glo ("plain_upper" : Str)) rfl)
  obtain ⟨fd_laid_upper, F_laid_upper⟩ := c.def_ 7 (d := d_laid_upper) rfl
  have m_laid_upper := He.glo_ok X G (c.fact 7 (f := .glo ("laid_upper" : Str)) rfl)
  obtain ⟨fd_upper_of_laid, F_upper_of_laid⟩ := c.def_ 8 (d := d_upper_of_laid) rfl
  have m_upper_of_laid := He.glo_ok X G (c.fact 8 (f := .glo ("upper_of_laid" : Str)) rfl)
  obtain ⟨fd_items_number, F_items_number⟩ := c.def_ 9 (d := d_items_number) rfl
  have m_items_number := He.glo_ok X G (c.fact 9 (f := .glo ("items_number" : Str)) rfl)
  obtain ⟨fd__law_bag, F__law_bag⟩ := c.def_ 10 (d := d__law_bag) rfl
  have m__law_bag := He.glo_ok X G (c.fact 10 (f := .glo ("_law_bag" : Str)) rfl)
  obtain ⟨fd__law_draw, F__law_draw⟩ := c.def_ 11 (d := d__law_draw) rfl
  have m__law_draw := He.glo_ok X G (c.fact 11 (f := .glo ("_law_draw" : Str)) rfl)
  obtain ⟨fd__law_same, F__law_same⟩ := c.def_ 12 (d := d__law_same) rfl
  have m__law_same := He.glo_ok X G (c.fact 12 (f := .glo ("_law_same" : Str)) rfl)
  obtain ⟨fd__law_cut, F__law_cut⟩ := c.def_ 13 (d := d__law_cut) rfl
  have m__law_cut := He.glo_ok X G (c.fact 13 (f := .glo ("_law_cut" : Str)) rfl)
  obtain ⟨fd__law_power, F__law_power⟩ := c.def_ 14 (d := d__law_power) rfl
  have m__law_power := He.glo_ok X G (c.fact 14 (f := .glo ("_law_power" : Str)) rfl)
  obtain ⟨fd__law_digits, F__law_digits⟩ := c.def_ 15 (d := d__law_digits) rfl
  have m__law_digits := He.glo_ok X G (c.fact 15 (f := .glo ("_law_digits" : Str)) rfl)
  obtain ⟨fd__law_place, F__law_place⟩ := c.def_ 16 (d := d__law_place) rfl
  have m__law_place := He.glo_ok X G (c.fact 16 (f := .glo ("_law_place" : Str)) rfl)
  obtain ⟨fd__law_laid, F__law_laid⟩ := c.def_ 17 (d := d__law_laid) rfl
  have m__law_laid := He.glo_ok X G (c.fact 17 (f := .glo ("_law_laid" : Str)) rfl)
  obtain ⟨fd__law_is_number, F__law_is_number⟩ := c.def_ 18 (d := d__law_is_number) rfl
  have m__law_is_number := He.glo_ok X G (c.fact 18 (f := .glo ("_law_is_number" : Str)) rfl)
  obtain ⟨fd__law_with, F__law_with⟩ := c.def_ 19 (d := d__law_with) rfl
  have m__law_with := He.glo_ok X G (c.fact 19 (f := .glo ("_law_with" : Str)) rfl)
  obtain ⟨fd_is_number, F_is_number⟩ := c.def_ 20 (d := d_is_number) rfl
  have m_is_number := He.glo_ok X G (c.fact 20 (f := .glo ("is_number" : Str)) rfl)
  obtain ⟨fd_uppers_number, F_uppers_number⟩ := c.def_ 21 (d := d_uppers_number) rfl
  have m_uppers_number := He.glo_ok X G (c.fact 21 (f := .glo ("uppers_number" : Str)) rfl)
  obtain ⟨fd_upper_at, F_upper_at⟩ := c.def_ 22 (d := d_upper_at) rfl
  have m_upper_at := He.glo_ok X G (c.fact 22 (f := .glo ("upper_at" : Str)) rfl)
  obtain ⟨fd_upper_place, F_upper_place⟩ := c.def_ 23 (d := d_upper_place) rfl
  have m_upper_place := He.glo_ok X G (c.fact 23 (f := .glo ("upper_place" : Str)) rfl)
  obtain ⟨fd__law_pick, F__law_pick⟩ := c.def_ 24 (d := d__law_pick) rfl
  have m__law_pick := He.glo_ok X G (c.fact 24 (f := .glo ("_law_pick" : Str)) rfl)
  obtain ⟨fd__law_upper_of, F__law_upper_of⟩ := c.def_ 25 (d := d__law_upper_of) rfl
  have m__law_upper_of := He.glo_ok X G (c.fact 25 (f := .glo ("_law_upper_of" : Str)) rfl)
  obtain ⟨fd__law_upper_fault, F__law_upper_fault⟩ := c.def_ 26 (d := d__law_upper_fault) rfl
  have m__law_upper_fault := He.glo_ok X G (c.fact 26 (f := .glo ("_law_upper_fault" : Str)) rfl)
  obtain ⟨fd__law_are_items_right, F__law_are_items_right⟩ := c.def_ 27 (d := d__law_are_items_right) rfl
  have m__law_are_items_right := He.glo_ok X G (c.fact 27 (f := .glo ("_law_are_items_right" : Str)) rfl)
  obtain ⟨fd_upper_error, F_upper_error⟩ := c.def_ 28 (d := d_upper_error) rfl
  have m_upper_error := He.glo_ok X G (c.fact 28 (f := .glo ("upper_error" : Str)) rfl)
  obtain ⟨fd__law_numbers, F__law_numbers⟩ := c.def_ 29 (d := d__law_numbers) rfl
  have m__law_numbers := He.glo_ok X G (c.fact 29 (f := .glo ("_law_numbers" : Str)) rfl)
  obtain ⟨fd__law_added, F__law_added⟩ := c.def_ 30 (d := d__law_added) rfl
  have m__law_added := He.glo_ok X G (c.fact 30 (f := .glo ("_law_added" : Str)) rfl)
  obtain ⟨fd__law_bad_number, F__law_bad_number⟩ := c.def_ 31 (d := d__law_bad_number) rfl
  have m__law_bad_number := He.glo_ok X G (c.fact 31 (f := .glo ("_law_bad_number" : Str)) rfl)
  obtain ⟨fd__law_upper, F__law_upper⟩ := c.def_ 32 (d := d__law_upper) rfl
  have m__law_upper := He.glo_ok X G (c.fact 32 (f := .glo ("_law_upper" : Str)) rfl)
  obtain ⟨fd__law_bad_row, F__law_bad_row⟩ := c.def_ 33 (d := d__law_bad_row) rfl
  have m__law_bad_row := He.glo_ok X G (c.fact 33 (f := .glo ("_law_bad_row" : Str)) rfl)
  obtain ⟨fd__law_are_sums_right, F__law_are_sums_right⟩ := c.def_ 34 (d := d__law_are_sums_right) rfl
  have m__law_are_sums_right := He.glo_ok X G (c.fact 34 (f := .glo ("_law_are_sums_right" : Str)) rfl)
  obtain ⟨fd__law_are_places_right, F__law_are_places_right⟩ := c.def_ 35 (d := d__law_are_places_right) rfl
  have m__law_are_places_right := He.glo_ok X G (c.fact 35 (f := .glo ("_law_are_places_right" : Str)) rfl)
  obtain ⟨fd__law_bad_upper, F__law_bad_upper⟩ := c.def_ 36 (d := d__law_bad_upper) rfl
  have m__law_bad_upper := He.glo_ok X G (c.fact 36 (f := .glo ("_law_bad_upper" : Str)) rfl)
  obtain ⟨fd__law_values, F__law_values⟩ := c.def_ 37 (d := d__law_values) rfl
  have m__law_values := He.glo_ok X G (c.fact 37 (f := .glo ("_law_values" : Str)) rfl)
  obtain ⟨fd__law_are_values_right, F__law_are_values_right⟩ := c.def_ 38 (d := d__law_are_values_right) rfl
  have m__law_are_values_right := He.glo_ok X G (c.fact 38 (f := .glo ("_law_are_values_right" : Str)) rfl)
  obtain ⟨fd_law, F_law⟩ := c.def_ 39 (d := d_law) rfl
  have m_law := He.glo_ok X G (c.fact 39 (f := .glo ("law" : Str)) rfl)
  have b_abs := He.free_ok X G (c.fact 40 (f := .free ("abs" : Str)) rfl)
  have b_bool := He.free_ok X G (c.fact 41 (f := .free ("bool" : Str)) rfl)
  have b_enumerate := He.free_ok X G (c.fact 42 (f := .free ("enumerate" : Str)) rfl)
  have b_int := He.free_ok X G (c.fact 43 (f := .free ("int" : Str)) rfl)
  have b_isinstance := He.free_ok X G (c.fact 44 (f := .free ("isinstance" : Str)) rfl)
  have b_len := He.free_ok X G (c.fact 45 (f := .free ("len" : Str)) rfl)
  have b_list := He.free_ok X G (c.fact 46 (f := .free ("list" : Str)) rfl)
  have b_min := He.free_ok X G (c.fact 47 (f := .free ("min" : Str)) rfl)
  have b_range := He.free_ok X G (c.fact 48 (f := .free ("range" : Str)) rfl)
  have b_repr := He.free_ok X G (c.fact 49 (f := .free ("repr" : Str)) rfl)
  have b_set := He.free_ok X G (c.fact 50 (f := .free ("set" : Str)) rfl)
  have b_sorted := He.free_ok X G (c.fact 51 (f := .free ("sorted" : Str)) rfl)
  have b_tuple := He.free_ok X G (c.fact 52 (f := .free ("tuple" : Str)) rfl)
  have b_zip := He.free_ok X G (c.fact 53 (f := .free ("zip" : Str)) rfl)
  have e := hfa.symm.trans m_law
  cases e
  refine ⟨fd_law, fun s v => FunD.bindsA (ps := ["script"]) F_law (fun _ _ _ _ _ _ us hl => match us, hl with | [_], _ => rfl) s [v] rfl, fun base hs => ?_⟩
  have H_is_integer := h_is_integer (Pr := PySem.Challenge.pw_eachsaysonce_k18_whole_uppers) (w := w) (P := { K := K, tp := tapeP, ec := fun _ => 0, ef := fun _ => [] }) (mg := mg) (base := base) rfl hs b_bool b_int b_isinstance F_is_integer m_is_integer
  have H_row_place := h_row_place (Pr := PySem.Challenge.pw_eachsaysonce_k18_whole_uppers) (w := w) (P := { K := K, tp := tapeP, ec := fun _ => 0, ef := fun _ => [] }) (mg := mg) (base := base) rfl hs F_row_place m_row_place
  have H_row_at := h_row_at (Pr := PySem.Challenge.pw_eachsaysonce_k18_whole_uppers) (w := w) (P := { K := K, tp := tapeP, ec := fun _ => 0, ef := fun _ => [] }) (mg := mg) (base := base) rfl hs b_range b_tuple F_row_at m_row_at
  have H_upper_item := h_upper_item (Pr := PySem.Challenge.pw_eachsaysonce_k18_whole_uppers) (w := w) (P := { K := K, tp := tapeP, ec := fun _ => 0, ef := fun _ => [] }) (mg := mg) (base := base) rfl hs F_upper_item m_upper_item
  have H_uppers_added := h_uppers_added (Pr := PySem.Challenge.pw_eachsaysonce_k18_whole_uppers) (w := w) (P := { K := K, tp := tapeP, ec := fun _ => 0, ef := fun _ => [] }) (mg := mg) (base := base) rfl hs b_tuple b_zip F_uppers_added m_uppers_added
  have H_uppers_scaled := h_uppers_scaled (Pr := PySem.Challenge.pw_eachsaysonce_k18_whole_uppers) (w := w) (P := { K := K, tp := tapeP, ec := fun _ => 0, ef := fun _ => [] }) (mg := mg) (base := base) rfl hs b_tuple F_uppers_scaled m_uppers_scaled
  have H_plain_upper := h_plain_upper (Pr := PySem.Challenge.pw_eachsaysonce_k18_whole_uppers) (w := w) (P := { K := K, tp := tapeP, ec := fun _ => 0, ef := fun _ => [] }) (mg := mg) (base := base) rfl hs b_range b_tuple F_plain_upper m_plain_upper
  have H_laid_upper := h_laid_upper (Pr := PySem.Challenge.pw_eachsaysonce_k18_whole_uppers) (w := w) (P := { K := K, tp := tapeP, ec := fun _ => 0, ef := fun _ => [] }) (mg := mg) (base := base) rfl hs b_tuple F_laid_upper m_laid_upper
  have H_upper_of_laid := h_upper_of_laid (Pr := PySem.Challenge.pw_eachsaysonce_k18_whole_uppers) (w := w) (P := { K := K, tp := tapeP, ec := fun _ => 0, ef := fun _ => [] }) (mg := mg) (base := base) rfl hs b_range b_tuple F_upper_of_laid m_upper_of_laid
  have H_items_number := h_items_number (Pr := PySem.Challenge.pw_eachsaysonce_k18_whole_uppers) (w := w) (P := { K := K, tp := tapeP, ec := fun _ => 0, ef := fun _ => [] }) (mg := mg) (base := base) rfl hs F_items_number m_items_number
  have H__law_bag := h__law_bag (Pr := PySem.Challenge.pw_eachsaysonce_k18_whole_uppers) (w := w) (P := { K := K, tp := tapeP, ec := fun _ => 0, ef := fun _ => [] }) (mg := mg) (base := base) rfl hs b_abs b_int b_len F__law_bag m__law_bag
  have H__law_draw := h__law_draw (Pr := PySem.Challenge.pw_eachsaysonce_k18_whole_uppers) (w := w) (P := { K := K, tp := tapeP, ec := fun _ => 0, ef := fun _ => [] }) (mg := mg) (base := base) rfl hs b_int F__law_draw m__law_draw
  have H__law_same := h__law_same (Pr := PySem.Challenge.pw_eachsaysonce_k18_whole_uppers) (w := w) (P := { K := K, tp := tapeP, ec := fun _ => 0, ef := fun _ => [] }) (mg := mg) (base := base) rfl hs b_repr F__law_same m__law_same
  have H__law_cut := h__law_cut (Pr := PySem.Challenge.pw_eachsaysonce_k18_whole_uppers) (w := w) (P := { K := K, tp := tapeP, ec := fun _ => 0, ef := fun _ => [] }) (mg := mg) (base := base) rfl hs b_tuple F__law_cut m__law_cut
  have H__law_power := h__law_power (Pr := PySem.Challenge.pw_eachsaysonce_k18_whole_uppers) (w := w) (P := { K := K, tp := tapeP, ec := fun _ => 0, ef := fun _ => [] }) (mg := mg) (base := base) rfl hs b_range F__law_power m__law_power
  have H__law_digits := h__law_digits (Pr := PySem.Challenge.pw_eachsaysonce_k18_whole_uppers) (w := w) (P := { K := K, tp := tapeP, ec := fun _ => 0, ef := fun _ => [] }) (mg := mg) (base := base) rfl hs b_int b_range b_tuple F__law_digits m__law_digits
  have H__law_place := h__law_place (Pr := PySem.Challenge.pw_eachsaysonce_k18_whole_uppers) (w := w) (P := { K := K, tp := tapeP, ec := fun _ => 0, ef := fun _ => [] }) (mg := mg) (base := base) rfl hs F__law_place m__law_place
  have H__law_laid := h__law_laid (Pr := PySem.Challenge.pw_eachsaysonce_k18_whole_uppers) (w := w) (P := { K := K, tp := tapeP, ec := fun _ => 0, ef := fun _ => [] }) (mg := mg) (base := base) rfl hs F__law_laid m__law_laid
  have H__law_is_number := h__law_is_number (Pr := PySem.Challenge.pw_eachsaysonce_k18_whole_uppers) (w := w) (P := { K := K, tp := tapeP, ec := fun _ => 0, ef := fun _ => [] }) (mg := mg) (base := base) rfl hs b_bool b_int b_isinstance F__law_is_number m__law_is_number
  have H__law_with := h__law_with (Pr := PySem.Challenge.pw_eachsaysonce_k18_whole_uppers) (w := w) (P := { K := K, tp := tapeP, ec := fun _ => 0, ef := fun _ => [] }) (mg := mg) (base := base) rfl hs F__law_with m__law_with
  have H_is_number := h_is_number (Pr := PySem.Challenge.pw_eachsaysonce_k18_whole_uppers) (w := w) (P := { K := K, tp := tapeP, ec := fun _ => 0, ef := fun _ => [] }) (mg := mg) (base := base) rfl hs H_is_integer F_is_number m_is_number
  have H_uppers_number := h_uppers_number (Pr := PySem.Challenge.pw_eachsaysonce_k18_whole_uppers) (w := w) (P := { K := K, tp := tapeP, ec := fun _ => 0, ef := fun _ => [] }) (mg := mg) (base := base) rfl hs b_range H_items_number F_uppers_number m_uppers_number
  have H_upper_at := h_upper_at (Pr := PySem.Challenge.pw_eachsaysonce_k18_whole_uppers) (w := w) (P := { K := K, tp := tapeP, ec := fun _ => 0, ef := fun _ => [] }) (mg := mg) (base := base) rfl hs H_upper_of_laid H_row_at H_items_number F_upper_at m_upper_at
  have H_upper_place := h_upper_place (Pr := PySem.Challenge.pw_eachsaysonce_k18_whole_uppers) (w := w) (P := { K := K, tp := tapeP, ec := fun _ => 0, ef := fun _ => [] }) (mg := mg) (base := base) rfl hs H_row_place H_laid_upper F_upper_place m_upper_place
  have H__law_pick := h__law_pick (Pr := PySem.Challenge.pw_eachsaysonce_k18_whole_uppers) (w := w) (P := { K := K, tp := tapeP, ec := fun _ => 0, ef := fun _ => [] }) (mg := mg) (base := base) rfl hs b_len H__law_draw F__law_pick m__law_pick
  have H__law_upper_of := h__law_upper_of (Pr := PySem.Challenge.pw_eachsaysonce_k18_whole_uppers) (w := w) (P := { K := K, tp := tapeP, ec := fun _ => 0, ef := fun _ => [] }) (mg := mg) (base := base) rfl hs b_list b_range H__law_cut F__law_upper_of m__law_upper_of
  have H__law_upper_fault := h__law_upper_fault (Pr := PySem.Challenge.pw_eachsaysonce_k18_whole_uppers) (w := w) (P := { K := K, tp := tapeP, ec := fun _ => 0, ef := fun _ => [] }) (mg := mg) (base := base) rfl hs b_enumerate b_isinstance b_len b_tuple H__law_is_number F__law_upper_fault m__law_upper_fault
  have H__law_are_items_right := h__law_are_items_right (Pr := PySem.Challenge.pw_eachsaysonce_k18_whole_uppers) (w := w) (P := { K := K, tp := tapeP, ec := fun _ => 0, ef := fun _ => [] }) (mg := mg) (base := base) rfl hs b_range b_set b_sorted H__law_same H__law_draw H_upper_item F__law_are_items_right m__law_are_items_right
  have H_upper_error := h_upper_error (Pr := PySem.Challenge.pw_eachsaysonce_k18_whole_uppers) (w := w) (P := { K := K, tp := tapeP, ec := fun _ => 0, ef := fun _ => [] }) (mg := mg) (base := base) rfl hs b_enumerate b_isinstance b_len b_tuple H_is_number F_upper_error m_upper_error
  have H__law_numbers := h__law_numbers (Pr := PySem.Challenge.pw_eachsaysonce_k18_whole_uppers) (w := w) (P := { K := K, tp := tapeP, ec := fun _ => 0, ef := fun _ => [] }) (mg := mg) (base := base) rfl hs b_range b_tuple H__law_draw H__law_pick F__law_numbers m__law_numbers
  have H__law_added := h__law_added (Pr := PySem.Challenge.pw_eachsaysonce_k18_whole_uppers) (w := w) (P := { K := K, tp := tapeP, ec := fun _ => 0, ef := fun _ => [] }) (mg := mg) (base := base) rfl hs b_int b_len b_zip H__law_upper_of H__law_laid F__law_added m__law_added
  have H__law_bad_number := h__law_bad_number (Pr := PySem.Challenge.pw_eachsaysonce_k18_whole_uppers) (w := w) (P := { K := K, tp := tapeP, ec := fun _ => 0, ef := fun _ => [] }) (mg := mg) (base := base) rfl hs H__law_pick F__law_bad_number m__law_bad_number
  have H__law_upper := h__law_upper (Pr := PySem.Challenge.pw_eachsaysonce_k18_whole_uppers) (w := w) (P := { K := K, tp := tapeP, ec := fun _ => 0, ef := fun _ => [] }) (mg := mg) (base := base) rfl hs H__law_upper_of H__law_numbers F__law_upper m__law_upper
  have H__law_bad_row := h__law_bad_row (Pr := PySem.Challenge.pw_eachsaysonce_k18_whole_uppers) (w := w) (P := { K := K, tp := tapeP, ec := fun _ => 0, ef := fun _ => [] }) (mg := mg) (base := base) rfl hs b_len b_list H__law_draw H__law_pick H__law_with H__law_bad_number F__law_bad_row m__law_bad_row
  have H__law_are_sums_right := h__law_are_sums_right (Pr := PySem.Challenge.pw_eachsaysonce_k18_whole_uppers) (w := w) (P := { K := K, tp := tapeP, ec := fun _ => 0, ef := fun _ => [] }) (mg := mg) (base := base) rfl hs H__law_pick H__law_upper_of H__law_added H__law_draw H__law_with H__law_same H_uppers_added H_uppers_scaled H_plain_upper F__law_are_sums_right m__law_are_sums_right
  have H__law_are_places_right := h__law_are_places_right (Pr := PySem.Challenge.pw_eachsaysonce_k18_whole_uppers) (w := w) (P := { K := K, tp := tapeP, ec := fun _ => 0, ef := fun _ => [] }) (mg := mg) (base := base) rfl hs b_min H__law_power H__law_laid H_laid_upper H_upper_of_laid H__law_same H__law_place H__law_upper_of H_uppers_number H__law_numbers H__law_digits H_upper_at H_upper_place H__law_draw F__law_are_places_right m__law_are_places_right
  have H__law_bad_upper := h__law_bad_upper (Pr := PySem.Challenge.pw_eachsaysonce_k18_whole_uppers) (w := w) (P := { K := K, tp := tapeP, ec := fun _ => 0, ef := fun _ => [] }) (mg := mg) (base := base) rfl hs b_len b_list H__law_draw H__law_pick H__law_with H__law_laid H__law_bad_row F__law_bad_upper m__law_bad_upper
  have H__law_values := h__law_values (Pr := PySem.Challenge.pw_eachsaysonce_k18_whole_uppers) (w := w) (P := { K := K, tp := tapeP, ec := fun _ => 0, ef := fun _ => [] }) (mg := mg) (base := base) rfl hs b_isinstance b_len b_range b_tuple H__law_upper H__law_with H__law_bad_upper H__law_draw H__law_pick H__law_bad_number H__law_bad_row F__law_values m__law_values
  have H__law_are_values_right := h__law_are_values_right (Pr := PySem.Challenge.pw_eachsaysonce_k18_whole_uppers) (w := w) (P := { K := K, tp := tapeP, ec := fun _ => 0, ef := fun _ => [] }) (mg := mg) (base := base) rfl hs b_enumerate b_repr H__law_values H__law_upper_fault H_upper_error H__law_same F__law_are_values_right m__law_are_values_right
  have H_law := h_law (Pr := PySem.Challenge.pw_eachsaysonce_k18_whole_uppers) (w := w) (P := { K := K, tp := tapeP, ec := fun _ => 0, ef := fun _ => [] }) (mg := mg) (base := base) rfl hs b_range b_repr H__law_bag H__law_pick H__law_upper H__law_are_items_right H__law_are_sums_right H__law_are_places_right H__law_are_values_right F_law m_law
  exact H_law
theorem holds (pure : ∀ ns : List Int, ns.length ≤ 63 → ∃ ds, v_law [.list (ns.map PyData.int)] = .ok (.bool true, ds) ∧ ds.length = 1) : PySem.Challenge.rw_eachsaysonce_k18_whole_uppers.Holds := by
  w_on; o_law
  refine HandSHeadRun.head_any (r := Rw) (q := PySem.W.view Rw.prog [43]) (H := hk) (ob := ob) (M := 4000) (loose := loose) (d := HandSHeadRun.topDef Rw.prog 43) (kwd := []) ob_eq
    (by kernel_rfl) (fun s => by kernel_rfl) run (by kernel_rfl) (by kernel_rfl) (by kernel_rfl) (by rfl) (by first | assumption | decide +kernel) (by decide +kernel) ⟨rfl, rfl, rfl, rfl, rfl, by decide +kernel⟩ ?hw ?hc
  case hw => w_witness2
  case hc =>
    refine walk_ofZ (l := PySem.Challenge.rw_eachsaysonce_k18_whole_uppers) (n := 63) (k := 8) (x := "script") (facts := fa) (fn := fn) (m := 4) rfl (by decide) (by kernel_rfl) ⟨rfl, by decide, by decide⟩ fun w mg f h K KX c G hmg0 => ?_
    have hmg : mg ("law" : PySem.Str) = some (.ref f) := by
      have e : (HandSHeadRun.topDef Rw.prog 43).name = ("law" : PySem.Str) := by kernel_rfl
      rw [← e]
      exact hmg0
    obtain ⟨fd, hb, hF⟩ := facts (w := w) KX G hmg c
    exact ⟨fd, tapeP, v_law, hb, pure, hF⟩
end
end K18.E

set_option maxRecDepth 100000
set_option maxHeartbeats 4000000
namespace K18
open PySem Z
/-- a bag -/
def T (d : D) : Prop := ∃ g x m, d = bagV g x m ∧ 0 ≤ x ∧ ∀ y ∈ g, 0 ≤ y
theorem p9 : powD (.int 10) (.int 9) = some (.int 1000000000) := by
  rw [powD_of (by decide) (by decide)]
  rfl
theorem draw_while (m : Int) (b d : D) : ∀ (n : Nat) (g : List Int) (x : Int) (c : D), g.length ≤ n → 0 ≤ x → (∀ y ∈ g, 0 ≤ y) → ∃ g' x' c', 0 ≤ x' ∧ (∀ y ∈ g', 0 ≤ y) ∧ whileN t__law_draw_2 b__law_draw_1 (n + 1) [bagV g x m, b, c, d] = .ok (.nx [bagV g' x' m, b, c', d])
  | n, g, x, c, hg, hx, hy => by
    by_cases h0 : x = 0
    · subst h0
      by_cases hn : g = []
      · subst hn
        exact ⟨[], 0, c, hx, hy, while_end (by simp [t__law_draw_2, bagGetD, bagHasD, bagV])⟩
      · obtain ⟨y, l, rfl⟩ : ∃ y l, g = l ++ [y] := ⟨g.getLast hn, g.dropLast, (List.dropLast_concat_getLast hn).symm⟩
        have hl : l.length + 1 ≤ n := by simpa using hg
        obtain ⟨n', rfl⟩ : ∃ n', n = n' + 1 := ⟨n - 1, by omega⟩
        have last : (((l ++ [y]).map PyData.int)[((l ++ [y]).map PyData.int).length - 1]?) = some (.int y) := by simp
        have drop : ((l ++ [y]).map PyData.int).dropLast = l.map PyData.int := by simp
        have hy0 : 0 ≤ y := hy y (by simp)
        have hl0 : ∀ z ∈ l, 0 ≤ z := fun z hz => hy z (by simp [hz])
        have hne : (List.map PyData.int l ++ [PyData.int y]).isEmpty = false := by simp
        have ht : t__law_draw_2 [bagV (l ++ [y]) 0 m, b, c, d] = .ok (.bool true, [bagV (l ++ [y]) 0 m, b, c, d]) := by simp [t__law_draw_2, bagGetD, bagHasD, bagV, hne]
        by_cases hc : 1000000000 < y
        · obtain ⟨g', x', c', i1, i2, i3⟩ := draw_while m b d n' l y (.int y) (by omega) hy0 hl0
          refine ⟨g', x', c', i1, i2, while_go (ρ1 := [bagV l y m, b, .int y, d]) ht ?_ i3⟩
          simp [b__law_draw_1, bagPopF, bagV, bagSetF, bagSetK, p9, hc]
        · obtain ⟨g', x', c', i1, i2, i3⟩ := draw_while m b d n' l 0 (.int y) (by omega) (by omega) hl0
          refine ⟨g', x', c', i1, i2, while_go (ρ1 := [bagV l 0 m, b, .int y, d]) ht ?_ i3⟩
          simp [b__law_draw_1, bagPopF, bagV, bagSetF, bagSetK, p9, hc]
    · have h0' : (x == 0) = false := by simp [h0]
      exact ⟨g, x, c, hx, hy, while_end (by simp [t__law_draw_2, bagGetD, bagV, h0'])⟩
theorem draw_spec {tp : D} {many : Int} (h : T tp) (h1 : 1 ≤ many) (hm : many < 2 ^ 64) : ∃ tp' r, T tp' ∧ 0 ≤ r ∧ r < many ∧ v__law_draw [tp, .int many] = .ok (.int r, [tp', .int many]) := by
  obtain ⟨g, x, m, rfl, hx, hy⟩ := h
  have ok : ∀ x : Int, okMod x many = true := fun x => okMod_pos (by omega)
  have dv : ∀ x : Int, okDiv x many = true := fun x => okDiv_small (by omega) hm
  have p : ∀ x : Int, 0 ≤ x % many ∧ x % many < many := fun x => ⟨Int.emod_nonneg _ (by omega), Int.emod_lt_of_pos _ (by omega)⟩
  obtain ⟨g', x', c', i1, i2, e⟩ := draw_while m (.int many) .none g.length g x .none (Nat.le_refl _) hx hy
  have ew := whileF_eq e (by simp)
  by_cases h0 : 0 < x'
  · refine ⟨bagV g' (x' / many) m, x' % many, ⟨_, _, _, rfl, Int.ediv_nonneg i1 (by omega), i2⟩, (p x').1, (p x').2, ?_⟩
    unfold v__law_draw
    apply run1 (he := rfl)
    · refine seq_go ew ?_
      simp [bagGetD, bagV, h0, ok, dv, bagSetF, bagSetK]
      try rfl
    · rfl
  · have q1 : ∀ x : Int, okMod x 2147483647 = true := fun x => okMod_pos (by decide)
    have q2 : ∀ x : Int, okMod x 2147483629 = true := fun x => okMod_pos (by decide)
    have m1 : ∀ x : Int, okMul x 48271 = true := fun x => okMul_r _ (by decide) (by decide)
    have m2 : ∀ x y : Int, okMul (x % 2147483647) y = true := fun x y => okMul_l _ (by omega) (by omega)
    have d1 : ∀ x : Int, okDiv x 7 = true := fun x => okDiv_small (by decide) (by decide)
    refine ⟨bagV g' x' ((m * 48271 + 13) % 2147483647), ((m * 48271 + 13) % 2147483647 * ((m * 48271 + 13) % 2147483647) % 2147483629 / 7) % many, ⟨_, _, _, rfl, i1, i2⟩, (p _).1, (p _).2, ?_⟩
    unfold v__law_draw
    apply run1 (he := rfl)
    · refine seq_go ew ?_
      simp [bagGetD, bagV, h0, ok, bagSetF, bagSetK, q1, q2, m1, m2, d1]
      try rfl
    · rfl
end K18

set_option maxRecDepth 100000
set_option maxHeartbeats 4000000
namespace K18
open PySem Z
def ab (x : Int) : Int := if x < 0 then -x else x
def gi (f : Int → Int) : D → D
  | .int i => .int (f i)
  | x => x
theorem bag_spec {ns : List Int} : ∃ tp, T tp ∧ v__law_bag [.list (ns.map PyData.int)] = .ok (tp, [.list (ns.map PyData.int)]) := by
  have m1 : ∀ x : Int, okMul x 48271 = true := fun x => okMul_r _ (by decide) (by decide)
  have q1 : ∀ x : Int, okMod x 2147483647 = true := fun x => okMod_pos (by decide)
  have q2 : ∀ x : Int, okMod x 2147483629 = true := fun x => okMod_pos (by decide)
  generalize hS : PyData.list (ns.map PyData.int) = S
  have hl : ((ns.take 63).map PyData.int).length ≤ 63 := by simp; omega
  have c1 : ∀ a b : D, compL (nameB 3) yesF e__law_bag_1 [3] ((ns.take 63).map PyData.int) [] [S, a, b, .none] = .ok (((ns.take 63).map PyData.int).map (gi ab), [S, a, b, .none]) := fun a b => by
    refine comp_map (gi ab) _ (by rw [slv]; omega) fun x hx => ?_
    obtain ⟨n, hn, rfl⟩ := List.mem_map.mp hx
    exact ⟨[S, a, b, .int n], rfl, by simp [e__law_bag_1, gi, ab], rfl⟩
  have e1 : ((ns.take 63).map PyData.int).map (gi ab) = ((ns.take 63).map ab).map PyData.int := by
    rw [List.map_map, List.map_map]
    rfl
  have c2 : ∀ (L : List D) (k : Int), ∃ k' c, loopF (nameB 3) b__law_bag_2 (((ns.take 63).map ab).map PyData.int) [S, .list L, .int k, .none] = .ok (.nx [S, .list L, .int k', c]) := fun L k => by
    obtain ⟨ρ', e, ⟨k', c, eρ⟩⟩ := loop_inv0 (b := nameB 3) (f := b__law_bag_2) (fun n ρ => ∃ k c, ρ = [S, .list L, .int k, c]) (((ns.take 63).map ab).map PyData.int) [S, .list L, .int k, .none] ⟨k, .none, rfl⟩ fun i x ρ hx ⟨k, c, eρ⟩ => by
      subst eρ
      obtain ⟨n, hn, rfl⟩ := List.mem_map.mp (List.mem_of_getElem? hx)
      refine ⟨_, _, rfl, .inl ?_, (k * 48271 + n % 2147483629 + 5) % 2147483647, .int n, rfl⟩
      simp [b__law_bag_2, m1, q1, q2]
    subst eρ
    exact ⟨k', c, e⟩
  have h63 : cutD (ns.map PyData.int) none (some 63) = (ns.take 63).map PyData.int := by
    have := cut_take (ns.map PyData.int) 63
    rw [List.map_take]
    exact this
  have hpos : ∀ y ∈ ((ns.take 63).map ab).reverse, 0 ≤ y := fun y hy => by
    obtain ⟨x, hx, rfl⟩ := List.mem_map.mp (List.mem_reverse.mp hy)
    unfold ab
    split <;> omega
  have es : scrF 0 63 [S, .none, .none, .none] = .ok (.list ((ns.take 63).map PyData.int), [S, .none, .none, .none]) := by
    subst hS
    show R.ok (PyData.list (cutD (ns.map PyData.int) none (some 63)), _) = _
    rw [h63]
  have c1' := c1 .none .none
  rw [e1] at c1'
  have eI := isInts_of ((ns.take 63).map ab).reverse
  have er : (((ns.take 63).map ab).map PyData.int).reverse = (((ns.take 63).map ab).reverse).map PyData.int := by rw [List.map_reverse]
  generalize (((ns.take 63).map ab).reverse) = G at *
  generalize ((ns.take 63).map ab).map PyData.int = M at *
  generalize (ns.take 63).map PyData.int = N at *
  obtain ⟨k', c, e2⟩ := c2 M (19599 + (M.length : Int))
  refine ⟨bagV G 0 k', ⟨G, 0, k', rfl, by omega, hpos⟩, ?_⟩
  have e9 : revLD (.list M) = some (.list M.reverse) := rfl
  rw [er] at e9
  unfold v__law_bag
  refine run1 (ρ := [S, .list M, .int k', c]) (ρ0 := [S, .none, .none, .none]) ?_ rfl rfl
  refine seq_go (ρ1 := [S, .list M, .none, .none]) (by simp [es, c1']) ?_
  refine seq_go (ρ1 := [S, .list M, .int (19599 + (M.length : Int)), .none]) (by simp) ?_
  refine seq_go (ρ1 := [S, .list M, .int k', c]) (by simp [e2]) ?_
  simp [bagNewF, bagNewK, bagV, e9, eI]
theorem pick_spec {tp : D} (h : T tp) {xs : List D} (h0 : xs ≠ []) (hl : xs.length ≤ 1000000) : ∃ tp' x, T tp' ∧ x ∈ xs ∧ v__law_pick [tp, .list xs] = .ok (x, [tp', .list xs]) := by
  have hp : 0 < xs.length := List.length_pos_iff.mpr h0
  obtain ⟨tp', r, ht, r0, r1, e⟩ := draw_spec h (many := (xs.length : Int)) (by omega) (by omega)
  have hr : r.toNat < xs.length := by omega
  have ea : L2.atI xs r = some xs[r.toNat] := by
    rw [atI_of r0]
    exact List.getElem?_eq_getElem hr
  refine ⟨tp', xs[r.toNat], ht, List.getElem_mem hr, ?_⟩
  unfold v__law_pick
  refine run1 (ρ := [tp', .list xs]) ?_ rfl rfl
  simp [c__law_pick, e, ea]
/-- ints from 0 on, less than p -/
def bel (p : Int) (L : List Int) : Prop := ∀ x ∈ L, 0 ≤ x ∧ x < p
def is (L : List Int) : List D := L.map PyData.int
@[simp] theorem is_len (L : List Int) : (is L).length = L.length := by simp [is]
theorem is_app (a b : List Int) : is (a ++ b) = is a ++ is b := by simp [is]
theorem is_rep (n : Nat) (x : Int) : (List.replicate n [PyData.int x]).flatten = is (List.replicate n x) := by simp [is]
theorem draws_comp {tp : D} (h : T tp) {p : Int} (hp : 1 ≤ p) (hp2 : p ≤ 1000000) (m : Nat) (hm : m ≤ 1000) (a2 a3 a4 c : D) :
    ∃ tp' L c', T tp' ∧ L.length = m ∧ bel p L ∧ compL (nameB 5) yesF e__law_numbers_1 [5] (rngD 0 (m : Int)) [] [tp, .int p, a2, a3, a4, c] = .ok (is L, [tp', .int p, a2, a3, a4, c']) := by
  obtain ⟨acc, ρ', e, ⟨tp', L, c', eρ, eL, ht, hL, hb⟩⟩ := comp_inv0 (b := nameB 5) (t := yesF) (fe := e__law_numbers_1) (vs := [5]) (fun i acc ρ => ∃ (tp' : D) (L : List Int) (c : D), ρ = [tp', .int p, a2, a3, a4, c] ∧ acc = is L ∧ T tp' ∧ L.length = i ∧ bel p L) (rngD 0 (m : Int)) [tp, .int p, a2, a3, a4, c] ⟨tp, [], c, rfl, rfl, h, rfl, fun _ z => nomatch z⟩ fun i x acc ρ hx ⟨tp1, L, c, eρ, eL, ht, hL, hb⟩ => by
    subst eρ eL
    have hi : i < m := by
      have := (List.getElem?_eq_some_iff.mp hx).1
      rw [rng_len] at this
      omega
    obtain ⟨tp2, r, h2, r0, r1, e⟩ := draw_spec ht hp (by omega)
    refine ⟨_, rfl, .inl ⟨_, _, .int r, rfl, by simp [e__law_numbers_1, e]; rfl, by rw [slv]; simp; omega, tp2, L ++ [r], .none, rfl, by simp [is], h2, by simp [hL], fun y hy => ?_⟩⟩
    rcases List.mem_append.mp hy with hy | hy
    · exact hb y hy
    · rw [List.mem_singleton.mp hy]; exact ⟨r0, r1⟩
  subst eρ eL
  rw [rng_len] at hL
  exact ⟨tp', L, c', ht, by omega, hb, e⟩
theorem bel_rep {p x : Int} {n : Nat} (h : 0 ≤ x ∧ x < p) : bel p (List.replicate n x) := fun y hy => by
  rw [(List.mem_replicate.mp hy).2]
  exact h
theorem bel_app {p : Int} {a b : List Int} (ha : bel p a) (hb : bel p b) : bel p (a ++ b) := fun y hy => (List.mem_append.mp hy).elim (ha y) (hb y)
/-- a row of so many numbers -/
theorem numbers_spec {tp : D} (h : T tp) {p : Int} (hp : 2 ≤ p) (hp2 : p ≤ 7) (m : Nat) (hm : m ≤ 100) : ∃ tp' L, T tp' ∧ L.length = m ∧ bel p L ∧ v__law_numbers [tp, .int p, .int (m : Int)] = .ok (.tuple (is L), [tp', .int p, .int (m : Int)]) := by
  have la := @lstA_of
  have ta := @tupA_of
  have mT : ∀ (x : Int) (k : Int), 0 ≤ k → k ≤ 1000 → mulD (.tuple [.int x]) (.int k) = some (.tuple (is (List.replicate k.toNat x))) := fun x k h0 h1 => by
    rw [← is_rep]
    exact mulD_T (by omega) (by omega) (by rw [slv]; simp; omega)
  obtain ⟨tp1, w, t1, w0, w1, e1⟩ := draw_spec h (many := 8) (by decide) (by decide)
  by_cases c0 : w < 2
  · by_cases cz : w = 0
    · refine ⟨tp1, List.replicate m 0, t1, by simp, bel_rep ⟨by omega, by omega⟩, ?_⟩
      have mm := mT 0 (m : Int) (by omega) (by omega)
      rw [show ((m : Int)).toNat = m by omega] at mm
      generalize is (List.replicate m 0) = R at *
      unfold v__law_numbers
      apply run1 (he := rfl)
      · subst cz
        refine seq_go (by simp [e1]; try rfl) ?_
        simp [ta, mm]
        try rfl
      · rfl
    · refine ⟨tp1, List.replicate m (p - 1), t1, by simp, bel_rep ⟨by omega, by omega⟩, ?_⟩
      have mm := mT (p - 1) (m : Int) (by omega) (by omega)
      rw [show ((m : Int)).toNat = m by omega] at mm
      generalize is (List.replicate m (p - 1)) = R at *
      have cz' : (w == 0) = false := by simp [cz]
      unfold v__law_numbers
      apply run1 (he := rfl)
      · refine seq_go (by simp [e1]; try rfl) ?_
        simp [ta, mm, c0, cz']
        try rfl
      · rfl
  · by_cases c2 : w = 2 ∧ 0 < m
    · obtain ⟨c2, hm0⟩ := c2
      obtain ⟨tp2, d, t2, d0, d1, e2⟩ := draw_spec t1 (many := (m : Int)) (by omega) (by omega)
      obtain ⟨tp3, x, t3, hx, e3⟩ := pick_spec t2 (xs := [PyData.int 0, .int ((m : Int) - 1), .int d]) (by simp) (by simp)
      obtain ⟨k, rfl, k0, k1⟩ : ∃ k : Int, x = .int k ∧ 0 ≤ k ∧ k < (m : Int) := by
        simp only [List.mem_cons, List.not_mem_nil, or_false] at hx
        rcases hx with rfl | rfl | rfl
        · exact ⟨0, rfl, by omega, by omega⟩
        · exact ⟨_, rfl, by omega, by omega⟩
        · exact ⟨_, rfl, by omega, by omega⟩
      obtain ⟨tp4, r, t4, r0, r1, e4⟩ := draw_spec t3 (many := p - 1) (by omega) (by omega)
      refine ⟨tp4, List.replicate k.toNat 0 ++ [1 + r] ++ List.replicate ((m : Int) - 1 - k).toNat 0, t4, by simp; omega, bel_app (bel_app (bel_rep ⟨by omega, by omega⟩) fun y hy => by rw [List.mem_singleton.mp hy]; omega) (bel_rep ⟨by omega, by omega⟩), ?_⟩
      have m1 := mT 0 k (by omega) (by omega)
      have m2 := mT 0 ((m : Int) - 1 - k) (by omega) (by omega)
      have a1 : addD (.tuple (is (List.replicate k.toNat 0))) (.tuple [.int (1 + r)]) = some (.tuple (is (List.replicate k.toNat 0 ++ [1 + r]))) := by
        rw [is_app]
        exact addD_T (by simp; omega)
      have a2 : addD (.tuple (is (List.replicate k.toNat 0 ++ [1 + r]))) (.tuple (is (List.replicate ((m : Int) - 1 - k).toNat 0))) = some (.tuple (is (List.replicate k.toNat 0 ++ [1 + r] ++ List.replicate ((m : Int) - 1 - k).toNat 0))) := by
        rw [is_app (List.replicate k.toNat 0 ++ [1 + r])]
        exact addD_T (by simp; omega)
      generalize is (List.replicate k.toNat 0 ++ [1 + r] ++ List.replicate ((m : Int) - 1 - k).toNat 0) = R3 at *
      generalize is (List.replicate ((m : Int) - 1 - k).toNat 0) = R2 at *
      generalize is (List.replicate k.toNat 0 ++ [1 + r]) = R1 at *
      generalize is (List.replicate k.toNat 0) = R0 at *
      have hm0' : (0 : Int) < (m : Int) := by omega
      subst c2
      unfold v__law_numbers
      apply run1 (he := rfl)
      · refine seq_go (by simp [e1]; try rfl) ?_
        refine seq_go (by simp; try rfl) ?_
        simp [hm0, hm0', la, ta, e2, e3, m1, m2, e4, a1, a2]
        try rfl
      · rfl
    · obtain ⟨tp2, L, c', t2, hL, hb, e2⟩ := draws_comp t1 (p := p) (by omega) (by omega) m (by omega) (.int (m : Int)) (.int w) .none .none
      have e3 := rngO1 (k := (m : Int)) (by omega) (by omega)
      refine ⟨tp2, L, t2, hL, hb, ?_⟩
      unfold v__law_numbers
      by_cases cw : w = 2
      · have hm0 : ¬ 0 < m := fun z => c2 ⟨cw, z⟩
        rw [cw] at e2 e1
        apply run1 (he := rfl)
        · refine seq_go (by simp [e1]; try rfl) ?_
          refine seq_go (by simp; try rfl) ?_
          refine seq_go (by simp [hm0]; try rfl) ?_
          simp [e3, e2]
          try rfl
        · rfl
      · have cw' : (w == 2) = false := by simp [cw]
        apply run1 (he := rfl)
        · refine seq_go (by simp [e1]; try rfl) ?_
          refine seq_go (by simp [c0]; try rfl) ?_
          refine seq_go (by simp [cw']; try rfl) ?_
          simp [e3, e2]
          try rfl
        · rfl
end K18

set_option maxRecDepth 100000
set_option maxHeartbeats 4000000
namespace K18
open PySem Z
/-- pieces of these sizes -/
def pc {α : Type} : List Nat → List α → List (List α)
  | [], _ => []
  | s :: r, row => row.take s :: pc r (row.drop s)
theorem pc_len {α : Type} : ∀ (szs : List Nat) (R : List α), (pc szs R).length = szs.length
  | [], _ => rfl
  | s :: r, R => by simp [pc, pc_len r]
theorem pc_app {α : Type} : ∀ (a : List Nat) (s : Nat) (R : List α), pc (a ++ [s]) R = pc a R ++ [(R.drop a.sum).take s]
  | [], s, R => by simp [pc]
  | t :: a, s, R => by
    simp only [List.cons_append, pc, pc_app a s, List.sum_cons, List.drop_drop]
theorem pc_flat {α : Type} : ∀ (szs : List Nat) (R : List α), szs.sum ≤ R.length → (pc szs R).flatten = R.take szs.sum
  | [], R, _ => by simp [pc]
  | s :: r, R, h => by
    simp only [List.sum_cons] at h
    simp only [pc, List.flatten_cons, List.sum_cons]
    rw [pc_flat r (R.drop s) (by simp; omega), List.take_add]
theorem pc_rep {α : Type} (x : α) : ∀ (szs : List Nat) (n : Nat), szs.sum ≤ n → pc szs (List.replicate n x) = szs.map fun s => List.replicate s x
  | [], _, _ => rfl
  | s :: r, n, h => by
    simp only [List.sum_cons] at h
    simp only [pc, List.map_cons, List.take_replicate, List.drop_replicate]
    rw [pc_rep x r (n - s) (by omega), Nat.min_eq_left (by omega)]
/-- the sizes of the first rows -/
def fz (l n : Nat) : List Nat := (List.range n).map fun i => l - i
theorem fz_succ (l n : Nat) : fz l (n + 1) = fz l n ++ [l - n] := by simp [fz, List.range_succ]
@[simp] theorem fz_len (l n : Nat) : (fz l n).length = n := by simp [fz]
def tot (l : Nat) : Nat := l * (l + 1) / 2
theorem sm_tot : ∀ l : Nat, l < 9 → 1 ≤ l → (fz l l).sum = tot l ∧ tot l ≤ 36 ∧ l ≤ tot l := by decide +kernel
theorem tot_int : ∀ l : Nat, l < 9 → 1 ≤ l → ((l : Int) * ((l : Int) + 1) / 2) = (tot l : Int) := by decide +kernel
/-- a length -/
structure Ln (l : Nat) : Prop where
  a : 1 ≤ l
  b : l < 9
def tl (xs : List (List D)) : List D := xs.map PyData.tuple
@[simp] theorem tl_len (xs : List (List D)) : (tl xs).length = xs.length := by simp [tl]
theorem tl_app (a b : List (List D)) : tl (a ++ b) = tl a ++ tl b := by simp [tl]
/-- the rows of an upper -/
def Rw {α : Type} (l : Nat) (R : List α) : List (List α) := pc (fz l l) R
def up (l : Nat) (R : List D) : D := .tuple (tl (Rw l R))
@[simp] theorem Rw_len {α : Type} (l : Nat) (R : List α) : (Rw l R).length = l := by simp [Rw, pc_len]
theorem Rw_flat {α : Type} {l : Nat} (hl : Ln l) {R : List α} (hR : R.length = tot l) : (Rw l R).flatten = R := by
  obtain ⟨h1, h2, h3⟩ := sm_tot l hl.b hl.a
  unfold Rw
  rw [pc_flat _ _ (by omega), h1, ← hR, List.take_length]
theorem pc_get {α : Type} : ∀ (szs : List Nat) (R : List α) (i : Nat) (s : Nat), szs.sum ≤ R.length → szs[i]? = some s → ∃ q, (pc szs R)[i]? = some q ∧ q.length = s
  | [], _, _, _, _, h => by simp at h
  | t :: r, R, 0, s, hs, h => by
    cases h
    simp only [List.sum_cons] at hs
    exact ⟨R.take t, rfl, by simp; omega⟩
  | t :: r, R, i + 1, s, hs, h => by
    simp only [List.sum_cons] at hs
    exact pc_get r (R.drop t) i s (by simp; omega) (by simpa using h)
theorem Rw_get {α : Type} {l : Nat} (hl : Ln l) {R : List α} (hR : R.length = tot l) {i : Nat} (hi : i < l) : ∃ q, (Rw l R)[i]? = some q ∧ q.length = l - i := by
  obtain ⟨h1, h2, h3⟩ := sm_tot l hl.b hl.a
  exact pc_get (fz l l) R i (l - i) (by omega) (by simp [fz, hi])
theorem pc_mem {α : Type} : ∀ (szs : List Nat) (R : List α), ∀ q ∈ pc szs R, (∀ y ∈ q, y ∈ R) ∧ q.length ≤ R.length
  | [], _, q, h => nomatch h
  | s :: r, R, q, h => by
    rcases List.mem_cons.mp h with rfl | h
    · exact ⟨fun y hy => List.mem_of_mem_take hy, by simp; omega⟩
    · obtain ⟨a, b⟩ := pc_mem r (R.drop s) q h
      exact ⟨fun y hy => List.mem_of_mem_drop (a y hy), by simp at b; omega⟩
theorem cut_loop {X : D} (R : List D) (hX : X = .tuple R ∨ X = .list R) (S : D) : ∀ (szs : List Nat) (acc : List D) (at' : Nat) (c : D), acc.length + szs.length ≤ 1000 → ∃ c', loopF (nameB 4) b__law_cut_1 (szs.map fun s : Nat => PyData.int (s : Int)) [X, S, .list acc, .int (at' : Int), c] = .ok (.nx [X, S, .list (acc ++ tl (pc szs (R.drop at'))), .int ((at' + szs.sum : Nat) : Int), c'])
  | [], acc, at', c, _ => ⟨c, by simp [loopF, pc, tl]⟩
  | s :: r, acc, at', c, h => by
    simp only [List.length_cons] at h
    have cm := cut_mid R at' (at' + s)
    rw [show at' + s - at' = s by omega, show ((at' + s : Nat) : Int) = (at' : Int) + (s : Int) by omega] at cm
    have ap := app_of (xs := acc) (x := .tuple ((R.drop at').take s)) (by omega)
    obtain ⟨c', ih⟩ := cut_loop R hX S r (acc ++ [.tuple ((R.drop at').take s)]) (at' + s) (.int (s : Int)) (by simp; omega)
    refine ⟨c', ?_⟩
    have e : b__law_cut_1 [X, S, .list acc, .int (at' : Int), .int (s : Int)] = .ok (.nx [X, S, .list (acc ++ [.tuple ((R.drop at').take s)]), .int ((at' + s : Nat) : Int), .int (s : Int)]) := by
      rcases hX with rfl | rfl <;> simp [b__law_cut_1, cm, ap]
    show thenL (loopF (nameB 4) b__law_cut_1 (r.map fun s : Nat => PyData.int (s : Int))) (b__law_cut_1 [X, S, .list acc, .int (at' : Int), .int (s : Int)]) = _
    rw [e]
    show loopF (nameB 4) b__law_cut_1 (r.map fun s : Nat => PyData.int (s : Int)) _ = _
    rw [ih]
    have e2 : acc ++ [PyData.tuple ((R.drop at').take s)] ++ tl (pc r (R.drop (at' + s))) = acc ++ tl (pc (s :: r) (R.drop at')) := by
      simp [tl, pc, List.drop_drop]
    rw [e2]
    simp only [List.sum_cons]
    rw [Nat.add_assoc]
theorem law_cut {X : D} (R : List D) (hX : X = .tuple R ∨ X = .list R) (szs : List Nat) (hl : szs.length ≤ 1000) : v__law_cut [X, .list (szs.map fun s : Nat => PyData.int (s : Int))] = .ok (.tuple (tl (pc szs R)), [X, .list (szs.map fun s : Nat => PyData.int (s : Int))]) := by
  have la := @lstA_of
  obtain ⟨c', e⟩ := cut_loop R hX (.list (szs.map fun s : Nat => PyData.int (s : Int))) szs [] 0 .none (by simpa using hl)
  simp only [List.nil_append, List.drop_zero] at e
  rw [show ((0 : Nat) : Int) = 0 from rfl] at e
  generalize tl (pc szs R) = Q at *
  generalize (szs.map fun s : Nat => PyData.int (s : Int)) = S at *
  unfold v__law_cut
  apply run1 (he := rfl)
  · refine seq_go (by simp [la]; try rfl) ?_
    refine seq_go (by simp [e]; try rfl) ?_
    simp
    try rfl
  · rfl
theorem law_upper_of {l : Nat} (hl : Ln l) {X : D} {R : List D} (hX : X = .tuple R ∨ X = .list R) : v__law_upper_of [.int (l : Int), X] = .ok (up l R, [.int (l : Int), X]) := by
  have h1 := hl.a
  have h9 := hl.b
  have ed : dnL [.int (l : Int), .int 0, .int (-1)] = some (.list ((fz l l).map fun s : Nat => PyData.int (s : Int))) := by
    have hb : dnOk (l : Int) 0 = true := by
      unfold dnOk
      exact cb_true (by refine ⟨?_, ?_, ?_, ?_, ?_⟩ <;> omega)
    show (if (-1 : Int) = -1 then if dnOk (l : Int) 0 = true then some (PyData.list (dnD (l : Int) 0)) else none else none) = _
    rw [if_pos rfl, if_pos hb]
    congr 2
    unfold dnD fz
    rw [List.map_map]
    rw [show ((l : Int) - 0).toNat = l by omega]
    refine List.map_congr_left fun i hi => ?_
    have := List.mem_range.mp hi
    show PyData.int ((l : Int) - (i : Int)) = PyData.int ((l - i : Nat) : Int)
    congr 1
    omega
  have ec := law_cut R hX (fz l l) (by simp; omega)
  have ep : up l R = .tuple (tl (pc (fz l l) R)) := rfl
  rw [ep]
  generalize tl (pc (fz l l) R) = W at *
  generalize ((fz l l).map fun s : Nat => PyData.int (s : Int)) = S2 at *
  unfold v__law_upper_of
  apply run1 (he := rfl)
  · simp [c__law_upper_of, ed, ec]
    try rfl
  · rfl
theorem prog_upper_of {l : Nat} (hl : Ln l) {R : List D} (hR : R.length = tot l) : v_upper_of_laid [.int (l : Int), .tuple R] = .ok (up l R, [.int (l : Int), .tuple R]) := by
  obtain ⟨h1, h9⟩ := hl
  have la := @lstA_of
  obtain ⟨ρ', e, ⟨c, eρ⟩⟩ := loop_inv0 (b := nameB 4) (f := b_upper_of_laid_1) (fun n ρ => ∃ c, ρ = [.int (l : Int), .tuple R, .list (tl (pc (fz l n) R)), .int ((fz l n).sum : Int), c]) (rngD 0 (l : Int)) [.int (l : Int), .tuple R, .list [], .int 0, .none] ⟨.none, rfl⟩ fun i x ρ hx ⟨c, eρ⟩ => by
    subst eρ
    obtain ⟨ex, hi⟩ := rng_get hx
    have ex : x = .int (i : Int) := by rw [ex]; congr 1; omega
    subst ex
    have hil : i < l := by omega
    have cm := cut_mid R (fz l i).sum ((fz l i).sum + (l - i))
    rw [show (fz l i).sum + (l - i) - (fz l i).sum = l - i by omega, show (((fz l i).sum + (l - i) : Nat) : Int) = ((fz l i).sum : Int) + (l : Int) - (i : Int) by omega] at cm
    have ap := app_of (xs := tl (pc (fz l i) R)) (x := .tuple ((R.drop (fz l i).sum).take (l - i))) (by rw [tl_len, pc_len]; simp; omega)
    refine ⟨_, [.int (l : Int), .tuple R, .list (tl (pc (fz l (i + 1)) R)), .int ((fz l (i + 1)).sum : Int), .int (i : Int)], rfl, .inl ?_, .int (i : Int), rfl⟩
    have e1 : tl (pc (fz l (i + 1)) R) = tl (pc (fz l i) R) ++ [.tuple ((R.drop (fz l i).sum).take (l - i))] := by
      rw [fz_succ, pc_app, tl_app]
      rfl
    have e2 : (((fz l (i + 1)).sum : Nat) : Int) = ((fz l i).sum : Int) + (l : Int) - (i : Int) := by
      rw [fz_succ, List.sum_append]
      simp
      omega
    rw [e1, e2]
    generalize (((fz l i).sum : Nat) : Int) = A at *
    generalize tl (pc (fz l i) R) = B at *
    simp [b_upper_of_laid_1, cm, ap]
  subst eρ
  rw [rng_len, show ((l : Int) - 0).toNat = l by omega] at e
  have er := rngO1 (k := (l : Int)) (by omega) (by omega)
  have ep : up l R = .tuple (tl (pc (fz l l) R)) := rfl
  rw [ep]
  generalize tl (pc (fz l l) R) = W1 at *
  generalize rngD 0 (l : Int) = W2 at *
  unfold v_upper_of_laid
  apply run1 (he := rfl)
  · refine seq_go (by simp [la]; try rfl) ?_
    refine seq_go (by simp [er, e]; try rfl) ?_
    simp
    try rfl
  · rfl
theorem at_rows {l : Nat} (hl : Ln l) {R : List D} (hR : R.length = tot l) {i : Nat} (hi : i < l) : ∃ q, L2.atI (tl (Rw l R)) (i : Int) = some (.tuple q) ∧ q.length = l - i ∧ q ∈ Rw l R := by
  obtain ⟨q, e, h⟩ := Rw_get hl hR hi
  refine ⟨q, ?_, h, List.mem_of_getElem? e⟩
  rw [atI_nat]
  unfold tl
  rw [List.getElem?_map, e]
  rfl
theorem pc_map {α β : Type} (f : α → β) : ∀ (szs : List Nat) (R : List α), pc szs (R.map f) = (pc szs R).map (List.map f)
  | [], _ => rfl
  | s :: r, R => by
    simp only [pc, List.map_cons]
    rw [← List.map_take, ← List.map_drop, pc_map f r]
theorem pc_zip {α β γ : Type} (f : α → β → γ) : ∀ (szs : List Nat) (A : List α) (B : List β), pc szs (List.zipWith f A B) = List.zipWith (List.zipWith f) (pc szs A) (pc szs B)
  | [], _, _ => rfl
  | s :: r, A, B => by
    simp only [pc, List.zipWith_cons_cons]
    rw [List.take_zipWith, List.drop_zipWith, pc_zip f r]
theorem Rw_is (l : Nat) (A : List Int) : Rw l (is A) = (Rw l A).map is := pc_map _ _ _
theorem Rw_zip (l : Nat) (f : Int → Int → Int) (A B : List Int) : Rw l (List.zipWith f A B) = List.zipWith (List.zipWith f) (Rw l A) (Rw l B) := pc_zip _ _ _ _
theorem Rw_map (l : Nat) (f : Int → Int) (A : List Int) : Rw l (A.map f) = (Rw l A).map (List.map f) := pc_map _ _ _
end K18

set_option maxRecDepth 100000
set_option maxHeartbeats 4000000
namespace K18
open PySem Z
/-- the digits, the lowest first -/
def low (p : Int) : Nat → Int → List Int
  | 0, _ => []
  | n + 1, x => x % p :: low p n (x / p)
@[simp] theorem low_len (p : Int) : ∀ (n : Nat) (x : Int), (low p n x).length = n
  | 0, _ => rfl
  | n + 1, x => by simp [low, low_len p n]
theorem low_bel {p : Int} (hp : 1 ≤ p) : ∀ (n : Nat) (x : Int), bel p (low p n x)
  | 0, _ => fun _ z => nomatch z
  | n + 1, x => fun y hy => by
    rcases List.mem_cons.mp hy with rfl | hy
    · exact ⟨Int.emod_nonneg _ (by omega), Int.emod_lt_of_pos _ (by omega)⟩
    · exact low_bel hp n (x / p) y hy
/-- a loop that tells digits into a row -/
theorem low_loop {p : Int} {b : Bd} {body : FnS} (env : List D → Int → D → Env') (hb : ∀ (L : List D) (z : Int) (c d : D), b d (env L z c) = some (env L z d)) (hbody : ∀ (L : List D) (z : Int) (c : D), L.length ≤ 2000 → body (env L z c) = .ok (.nx (env (L ++ [.int (z % p)]) (z / p) c))) :
    ∀ (m : Nat) (acc : List Int) (z : Int) (ds : List D) (c : D), ds.length = m → acc.length + m ≤ 1000 → ∃ y c', loopF b body ds (env (is acc) z c) = .ok (.nx (env (is (acc ++ low p m z)) y c')) := by
  intro m
  induction m with
  | zero =>
    intro acc z ds c h _
    have : ds = [] := List.eq_nil_of_length_eq_zero h
    subst this
    exact ⟨z, c, by simp [loopF, low]⟩
  | succ m ih =>
    intro acc z ds c h hl
    match ds, h with
    | d :: ds, h =>
      obtain ⟨y, c', e⟩ := ih (acc ++ [z % p]) (z / p) ds d (by simpa using h) (by simp; omega)
      refine ⟨y, c', ?_⟩
      have eb := hbody (is acc) z d (by simp; omega)
      rw [loopF, hb]
      show thenL (loopF b body ds) (body (env (is acc) z d)) = _
      rw [eb]
      have e2 : is acc ++ [PyData.int (z % p)] = is (acc ++ [z % p]) := by simp [is]
      show loopF b body ds _ = _
      rw [e2, e]
      simp [low]
theorem okM {p : Int} (hp : 1 ≤ p) (x : Int) : okMod x p = true := okMod_pos (by omega)
theorem okD {p : Int} (hp : 1 ≤ p) (hp7 : p ≤ 7) (x : Int) : okDiv x p = true := okDiv_small (by omega) (by omega)
def dg (p : Int) (n : Nat) (x : Int) : List Int := (low p n x).reverse
@[simp] theorem dg_len (p : Int) (n : Nat) (x : Int) : (dg p n x).length = n := by simp [dg]
theorem dg_bel {p : Int} (hp : 1 ≤ p) (n : Nat) (x : Int) : bel p (dg p n x) := fun y hy => low_bel hp n x y (List.mem_reverse.mp hy)
def val (p : Int) (L : List Int) : Int := L.foldl (fun a d => a * p + d) 0
theorem val_app (p : Int) (L : List Int) (d : Int) : val p (L ++ [d]) = val p L * p + d := by simp [val]
theorem dg_succ (p : Int) (n : Nat) (x : Int) : dg p (n + 1) x = dg p n (x / p) ++ [x % p] := by simp [dg, low]
theorem val_dg {p : Int} (hp : 1 ≤ p) : ∀ (n : Nat) (x : Int), 0 ≤ x → x < p ^ n → val p (dg p n x) = x
  | 0, x, h0, h1 => by
    have : x = 0 := by simp at h1; omega
    subst this
    rfl
  | n + 1, x, h0, h1 => by
    have h2 : x / p < p ^ n := by
      rw [Int.pow_succ] at h1
      exact Int.ediv_lt_of_lt_mul (by omega) h1
    have h3 : 0 ≤ x / p := Int.ediv_nonneg h0 (by omega)
    rw [dg_succ, val_app, val_dg hp n (x / p) h3 h2]
    have := Int.mul_ediv_add_emod x p
    rw [Int.mul_comm]
    exact this
theorem dg_app {p : Int} (hp : 1 ≤ p) (n : Nat) (x d : Int) (h0 : 0 ≤ d) (h1 : d < p) : dg p (n + 1) (x * p + d) = dg p n x ++ [d] := by
  have e1 : (x * p + d) / p = x := by
    rw [Int.add_comm, Int.add_mul_ediv_right _ _ (by omega), Int.ediv_eq_zero_of_lt h0 h1]
    omega
  have e2 : (x * p + d) % p = d := by
    rw [Int.add_comm, Int.add_mul_emod_self_right, Int.emod_eq_of_lt h0 h1]
  rw [dg_succ, e1, e2]
theorem dg_val {p : Int} (hp : 1 ≤ p) : ∀ (n : Nat) (L : List Int), L.length = n → bel p L → dg p n (val p L) = L
  | 0, L, h, _ => by
    have := List.eq_nil_of_length_eq_zero h
    subst this
    rfl
  | n + 1, L, h, hb => by
    obtain ⟨M, d, rfl⟩ : ∃ M d, L = M ++ [d] := ⟨L.dropLast, L.getLast (by intro z; subst z; simp at h), (List.dropLast_concat_getLast (by intro z; subst z; simp at h)).symm⟩
    obtain ⟨d0, d1⟩ := hb d (by simp)
    rw [val_app, dg_app hp n _ d d0 d1, dg_val hp n M (by simpa using h) fun x hx => hb x (by simp [hx])]
theorem fold_lt {p : Int} (hp : 1 ≤ p) : ∀ (L : List Int) (v : Int), 0 ≤ v → bel p L → 0 ≤ L.foldl (fun a d => a * p + d) v ∧ L.foldl (fun a d => a * p + d) v + 1 ≤ (v + 1) * p ^ L.length
  | [], v, hv, _ => ⟨hv, by simp⟩
  | d :: L, v, hv, h => by
    obtain ⟨c, e⟩ := h d List.mem_cons_self
    have hm : 0 ≤ v * p := Int.mul_nonneg hv (by omega)
    obtain ⟨a, b⟩ := fold_lt hp L (v * p + d) (by omega) fun x hx => h x (List.mem_cons_of_mem _ hx)
    refine ⟨a, Int.le_trans b ?_⟩
    have h1 : v * p + d + 1 ≤ (v + 1) * p := by
      rw [Int.add_mul]
      omega
    have h2 : (0 : Int) ≤ p ^ L.length := Int.pow_nonneg (by omega)
    have h3 := Int.mul_le_mul_of_nonneg_right h1 h2
    rw [List.length_cons, Int.pow_succ, Int.mul_comm (p ^ L.length) p, ← Int.mul_assoc]
    exact h3
theorem val_lt {p : Int} (hp : 1 ≤ p) (L : List Int) (h : bel p L) : 0 ≤ val p L ∧ val p L < p ^ L.length := by
  obtain ⟨a, b⟩ := fold_lt hp L 0 (by omega) h
  refine ⟨a, ?_⟩
  simp only [Int.zero_add, Int.one_mul] at b
  show L.foldl (fun a d => a * p + d) 0 < _
  omega
theorem val_zero (p : Int) : ∀ n : Nat, val p (List.replicate n 0) = 0
  | 0 => rfl
  | n + 1 => by
    rw [List.replicate_succ', val_app, val_zero p n]
    simp
theorem val_top (p : Int) : ∀ n : Nat, val p (List.replicate n (p - 1)) = p ^ n - 1
  | 0 => by simp [val]
  | n + 1 => by
    rw [List.replicate_succ', val_app, val_top p n, Int.pow_succ, Int.sub_mul]
    omega
theorem val_loop {p : Int} {b : FnS} (S : D) (hb : ∀ v d : Int, b [.int p, S, .int v, .int d] = .ok (.nx [.int p, S, .int (v * p + d), .int d])) : ∀ (L : List Int) (v : Int) (c : D), ∃ c', loopF (nameB 3) b (is L) [.int p, S, .int v, c] = .ok (.nx [.int p, S, .int (L.foldl (fun a d => a * p + d) v), c'])
  | [], v, c => ⟨c, rfl⟩
  | d :: L, v, c => by
    obtain ⟨c', e⟩ := val_loop S hb L (v * p + d) (.int d)
    refine ⟨c', ?_⟩
    show thenL (loopF (nameB 3) b (is L)) (b [.int p, S, .int v, .int d]) = _
    rw [hb]
    exact e
theorem law_place {p : Int} (hp : 1 ≤ p) (hp7 : p ≤ 7) (L : List Int) : v__law_place [.int p, .tuple (is L)] = .ok (.int (val p L), [.int p, .tuple (is L)]) := by
  have m1 : ∀ x : Int, okMul x p = true := fun x => okMul_r _ (by omega) (by omega)
  obtain ⟨c', e⟩ := val_loop (p := p) (b := b__law_place_1) (.tuple (is L)) (fun v d => by simp [b__law_place_1, m1]) L 0 .none
  have ev : L.foldl (fun a d => a * p + d) 0 = val p L := rfl
  rw [ev] at e
  generalize is L = S at *
  unfold v__law_place
  apply run1 (he := rfl)
  · refine seq_go (by simp; try rfl) ?_
    refine seq_go (by simp [e]; try rfl) ?_
    simp
    try rfl
  · rfl
theorem row_place {p : Int} (hp : 1 ≤ p) (hp7 : p ≤ 7) (L : List Int) : v_row_place [.int p, .tuple (is L)] = .ok (.int (val p L), [.int p, .tuple (is L)]) := by
  have m1 : ∀ x : Int, okMul p x = true := fun x => okMul_l _ (by omega) (by omega)
  obtain ⟨c', e⟩ := val_loop (p := p) (b := b_row_place_1) (.tuple (is L)) (fun v d => by simp [b_row_place_1, m1, Int.mul_comm]) L 0 .none
  have ev : L.foldl (fun a d => a * p + d) 0 = val p L := rfl
  rw [ev] at e
  generalize is L = S at *
  unfold v_row_place
  apply run1 (he := rfl)
  · refine seq_go (by simp; try rfl) ?_
    refine seq_go (by simp [e]; try rfl) ?_
    simp
    try rfl
  · rfl
theorem row_at {p : Int} (hp : 1 ≤ p) (hp7 : p ≤ 7) (n : Nat) (hn : n ≤ 100) (x : Int) : ∃ y, v_row_at [.int p, .int (n : Int), .int x] = .ok (.tuple (is (dg p n x)), [.int p, .int (n : Int), .int y]) := by
  have la := @lstA_of
  obtain ⟨y, c', e⟩ := low_loop (p := p) (b := nameB 4) (body := b_row_at_1) (fun L z c => [.int p, .int (n : Int), .int z, .list L, c]) (fun _ _ _ _ => rfl) (fun L z c hL => by
    have ap := app_of (xs := L) (x := .int (z % p)) (by omega)
    simp [b_row_at_1, okM hp, okD hp hp7, ap]) n [] x (rngD 0 (n : Int)) .none (by rw [rng_len]; omega) (by simp; omega)
  rw [List.nil_append, show is [] = [] from rfl] at e
  have er := rngO1 (k := (n : Int)) (by omega) (by omega)
  have ev : revD (.list (is (low p n x))) = some (.list (is (dg p n x))) := by
    show some (PyData.list (is (low p n x)).reverse) = _
    simp [is, dg]
  generalize is (low p n x) = L1 at *
  generalize is (dg p n x) = L2 at *
  refine ⟨y, ?_⟩
  unfold v_row_at
  apply run1 (he := rfl)
  · refine seq_go (by simp [la]; try rfl) ?_
    refine seq_go (by simp [er, e]; try rfl) ?_
    simp [ev]
    try rfl
  · rfl
theorem law_digits {p : Int} (hp : 1 ≤ p) (hp7 : p ≤ 7) (n : Nat) (hn : n ≤ 100) (x : Int) : ∃ y, v__law_digits [.int p, .int (n : Int), .int x] = .ok (.tuple (is (dg p n x)), [.int p, .int (n : Int), .int y]) := by
  have la := @lstA_of
  obtain ⟨y, c', e⟩ := low_loop (p := p) (b := nameB 4) (body := b__law_digits_1) (fun L z c => [.int p, .int (n : Int), .int z, .list L, c]) (fun _ _ _ _ => rfl) (fun L z c hL => by
    have ap := app_of (xs := L) (x := .int (z % p)) (by omega)
    simp [b__law_digits_1, okM hp, okD hp hp7, ap]) n [] x (rngD 0 (n : Int)) .none (by rw [rng_len]; omega) (by simp; omega)
  rw [List.nil_append, show is [] = [] from rfl] at e
  have er := rngO1 (k := (n : Int)) (by omega) (by omega)
  have ev : revD (.list (is (low p n x))) = some (.list (is (dg p n x))) := by
    show some (PyData.list (is (low p n x)).reverse) = _
    simp [is, dg]
  generalize is (low p n x) = L1 at *
  generalize is (dg p n x) = L2 at *
  refine ⟨y, ?_⟩
  unfold v__law_digits
  apply run1 (he := rfl)
  · refine seq_go (by simp [la]; try rfl) ?_
    refine seq_go (by simp [er, e]; try rfl) ?_
    simp [ev]
    try rfl
  · rfl
theorem pow_loop {p : Int} {b : FnS} (S : D) (hb : ∀ (v : Int) (d : D), b [.int p, S, .int v, d] = .ok (.nx [.int p, S, .int (v * p), d])) : ∀ (ds : List D) (v : Int) (c : D), ∃ c', loopF (nameB 3) b ds [.int p, S, .int v, c] = .ok (.nx [.int p, S, .int (v * p ^ ds.length), c'])
  | [], v, c => ⟨c, by simp [loopF]⟩
  | d :: ds, v, c => by
    obtain ⟨c', e⟩ := pow_loop S hb ds (v * p) d
    refine ⟨c', ?_⟩
    show thenL (loopF (nameB 3) b ds) (b [.int p, S, .int v, d]) = _
    rw [hb]
    show loopF (nameB 3) b ds _ = _
    rw [e, List.length_cons, Int.pow_succ, Int.mul_comm (p ^ ds.length) p, ← Int.mul_assoc]
theorem law_power {p : Int} (hp : 1 ≤ p) (hp7 : p ≤ 7) (n : Nat) (hn : n ≤ 100) : v__law_power [.int p, .int (n : Int)] = .ok (.int (p ^ n), [.int p, .int (n : Int)]) := by
  have m1 : ∀ x : Int, okMul x p = true := fun x => okMul_r _ (by omega) (by omega)
  obtain ⟨c', e⟩ := pow_loop (p := p) (b := b__law_power_1) (.int (n : Int)) (fun v d => by simp [b__law_power_1, m1]) (rngD 0 (n : Int)) 1 .none
  rw [rng_len, show ((n : Int) - 0).toNat = n by omega, Int.one_mul] at e
  have er := rngO1 (k := (n : Int)) (by omega) (by omega)
  generalize p ^ n = V at *
  unfold v__law_power
  apply run1 (he := rfl)
  · refine seq_go (by simp; try rfl) ?_
    refine seq_go (by simp [er, e]; try rfl) ?_
    simp
    try rfl
  · rfl
theorem items_number {l : Nat} (hl : Ln l) : v_items_number [.int (l : Int)] = .ok (.int (tot l : Int), [.int (l : Int)]) := by
  have m1 : okMul (l : Int) ((l : Int) + 1) = true := okMul_l _ (by have := hl.b; omega) (by have := hl.b; omega)
  have d1 : okDiv ((l : Int) * ((l : Int) + 1)) 2 = true := okDiv_small (by decide) (by decide)
  have e := tot_int l hl.b hl.a
  unfold v_items_number
  apply run1 (he := rfl)
  · simp [c_items_number, m1, d1, e]
    try rfl
  · rfl
theorem uppers_number {p : Int} (hp : 1 ≤ p) (hp7 : p ≤ 7) {l : Nat} (hl : Ln l) : v_uppers_number [.int p, .int (l : Int)] = .ok (.int (p ^ tot l), [.int p, .int (l : Int)]) := by
  have m1 : ∀ x : Int, okMul x p = true := fun x => okMul_r _ (by omega) (by omega)
  obtain ⟨_, ht, _⟩ := sm_tot l hl.b hl.a
  obtain ⟨c', e⟩ := pow_loop (p := p) (b := b_uppers_number_1) (.int (l : Int)) (fun v d => by simp [b_uppers_number_1, m1]) (rngD 0 (tot l : Int)) 1 .none
  rw [rng_len, show ((tot l : Int) - 0).toNat = tot l by omega, Int.one_mul] at e
  have er := rngO1 (k := (tot l : Int)) (by omega) (by omega)
  have es := items_number hl
  generalize p ^ tot l = V at *
  generalize ((tot l : Nat) : Int) = tt at *
  unfold v_uppers_number
  apply run1 (he := rfl)
  · refine seq_go (by simp; try rfl) ?_
    refine seq_go (by simp [es, er, e]; try rfl) ?_
    simp
    try rfl
  · rfl
theorem laid_loop (S : D) : ∀ (Q : List (List D)) (acc : List D) (c : D), acc.length + Q.flatten.length ≤ 1000 → ∃ c', loopF (nameB 2) b_laid_upper_1 (tl Q) [S, .list acc, c] = .ok (.nx [S, .list (acc ++ Q.flatten), c'])
  | [], acc, c, _ => ⟨c, by simp [loopF, tl]⟩
  | q :: Q, acc, c, h => by
    simp only [List.flatten_cons, List.length_append] at h
    obtain ⟨c', e⟩ := laid_loop S Q (acc ++ q) (.tuple q) (by rw [List.length_append]; omega)
    refine ⟨c', ?_⟩
    have ex : extendX acc [.tuple q] = some (.none, acc ++ q) := if_pos (by rw [slv]; omega)
    have eb : b_laid_upper_1 [S, .list acc, .tuple q] = .ok (.nx [S, .list (acc ++ q), .tuple q]) := by simp [b_laid_upper_1, ex]
    show thenL (loopF (nameB 2) b_laid_upper_1 (tl Q)) (b_laid_upper_1 [S, .list acc, .tuple q]) = _
    rw [eb]
    show loopF (nameB 2) b_laid_upper_1 (tl Q) _ = _
    rw [e]
    simp
theorem laid_upper {l : Nat} (hl : Ln l) {R : List D} (hR : R.length = tot l) : v_laid_upper [up l R] = .ok (.tuple R, [up l R]) := by
  have la := @lstA_of
  obtain ⟨_, ht, _⟩ := sm_tot l hl.b hl.a
  have hf := Rw_flat hl hR
  obtain ⟨c', e⟩ := laid_loop (up l R) (Rw l R) [] .none (by rw [hf, List.length_nil]; omega)
  rw [List.nil_append, hf] at e
  have eu : up l R = .tuple (tl (Rw l R)) := rfl
  rw [eu] at e ⊢
  generalize tl (Rw l R) = TL at *
  unfold v_laid_upper
  apply run1 (he := rfl)
  · refine seq_go (by simp [la]; try rfl) ?_
    refine seq_go (by simp [e]; try rfl) ?_
    simp
    try rfl
  · rfl
theorem lawlaid_loop (S : D) : ∀ (Q : List (List D)) (acc : List D) (c : D), acc.length + Q.flatten.length ≤ 1000 → ∃ c', loopF (nameB 2) b__law_laid_1 (tl Q) [S, .tuple acc, c] = .ok (.nx [S, .tuple (acc ++ Q.flatten), c'])
  | [], acc, c, _ => ⟨c, by simp [loopF, tl]⟩
  | q :: Q, acc, c, h => by
    simp only [List.flatten_cons, List.length_append] at h
    obtain ⟨c', e⟩ := lawlaid_loop S Q (acc ++ q) (.tuple q) (by rw [List.length_append]; omega)
    refine ⟨c', ?_⟩
    have ad := addD_T (xs := acc) (ys := q) (by omega)
    have eb : b__law_laid_1 [S, .tuple acc, .tuple q] = .ok (.nx [S, .tuple (acc ++ q), .tuple q]) := by simp [b__law_laid_1, ad]
    show thenL (loopF (nameB 2) b__law_laid_1 (tl Q)) (b__law_laid_1 [S, .tuple acc, .tuple q]) = _
    rw [eb]
    show loopF (nameB 2) b__law_laid_1 (tl Q) _ = _
    rw [e]
    simp
theorem law_laid {l : Nat} (hl : Ln l) {R : List D} (hR : R.length = tot l) : v__law_laid [up l R] = .ok (.tuple R, [up l R]) := by
  have ta := @tupA_of
  obtain ⟨_, ht, _⟩ := sm_tot l hl.b hl.a
  have hf := Rw_flat hl hR
  obtain ⟨c', e⟩ := lawlaid_loop (up l R) (Rw l R) [] .none (by rw [hf, List.length_nil]; omega)
  rw [List.nil_append, hf] at e
  have eu : up l R = .tuple (tl (Rw l R)) := rfl
  rw [eu] at e ⊢
  generalize tl (Rw l R) = TL at *
  unfold v__law_laid
  apply run1 (he := rfl)
  · refine seq_go (by simp [ta]; try rfl) ?_
    refine seq_go (by simp [e]; try rfl) ?_
    simp
    try rfl
  · rfl
theorem upper_at {p : Int} (hp : 1 ≤ p) (hp7 : p ≤ 7) {l : Nat} (hl : Ln l) (x : Int) : v_upper_at [.int p, .int (l : Int), .int x] = .ok (up l (is (dg p (tot l) x)), [.int p, .int (l : Int), .int x]) := by
  obtain ⟨_, ht, _⟩ := sm_tot l hl.b hl.a
  have e1 := items_number hl
  obtain ⟨y, e2⟩ := row_at hp hp7 (tot l) (by omega) x
  have e3 := prog_upper_of hl (R := is (dg p (tot l) x)) (by simp [dg])
  generalize up l (is (dg p (tot l) x)) = PD at *
  unfold v_upper_at
  apply run1 (he := rfl)
  · simp [c_upper_at, e1, e2, e3]
    try rfl
  · rfl
theorem upper_place {p : Int} (hp : 1 ≤ p) (hp7 : p ≤ 7) {l : Nat} (hl : Ln l) {L : List Int} (hL : L.length = tot l) : v_upper_place [.int p, up l (is L)] = .ok (.int (val p L), [.int p, up l (is L)]) := by
  have e1 := laid_upper hl (R := is L) (by simpa using hL)
  have e2 := row_place hp hp7 L
  generalize up l (is L) = PD at *
  unfold v_upper_place
  apply run1 (he := rfl)
  · simp [c_upper_place, e1, e2]
    try rfl
  · rfl
end K18

set_option maxRecDepth 100000
set_option maxHeartbeats 4000000
namespace K18
open PySem Z
theorem law_same {d : D} (h : fit d) : v__law_same [d, d] = .ok (.bool true, [d, d]) := by
  unfold v__law_same
  refine run1 (ρ := [d, d]) ?_ rfl rfl
  simp [c__law_same, reprD_fit h]
theorem gd_up {l : Nat} (hl : Ln l) {R : List D} (hR : R.length = tot l) (hg : ∀ y ∈ R, gd 110 0 y) : gd 33000 2 (up l R) := by
  obtain ⟨_, ht, _⟩ := sm_tot l hl.b hl.a
  have h9 := hl.b
  refine (gd_tuple (w := 4036) (n := 1) (l := 8) (fun y hy => ?_) (by simp; omega)).up (by decide) (by decide)
  obtain ⟨q, hq, rfl⟩ := List.mem_map.mp hy
  obtain ⟨a, b⟩ := pc_mem _ _ q hq
  exact gd_tuple (l := 36) (fun z hz => hg z (a z hz)) (by omega)
theorem gd_is {p : Int} (hp : p ≤ 7) {L : List Int} (h : bel p L) : ∀ y ∈ is L, gd 110 0 y := fun y hy => by
  obtain ⟨x, hx, rfl⟩ := List.mem_map.mp hy
  have := h x hx
  exact (gd_int (by omega)).up (by decide) (by decide)
/-! ### items -/
theorem item_step {l : Nat} (hl : Ln l) {R : List D} (hR : R.length = tot l) (hg : ∀ y ∈ R, gd 110 0 y) {i j : Nat} (hij : i ≤ j) (hj : j < l) (tp a5 : D) :
    ∃ b5, b__law_are_items_right_1 [tp, .int (l : Int), up l R, .int (i : Int), .int (j : Int), a5] = .ok (.nx [tp, .int (l : Int), up l R, .int (i : Int), .int (j : Int), b5]) := by
  have la := @lstA_of
  obtain ⟨q, e1, hq, hm⟩ := at_rows hl hR (i := i) (by omega)
  have hjq : j - i < q.length := by omega
  have e2 : L2.atI q ((j : Int) - (i : Int)) = some q[j - i] := by
    rw [show (j : Int) - (i : Int) = ((j - i : Nat) : Int) by omega, atI_nat, List.getElem?_eq_getElem hjq]
  have gq : gd 110 0 q[j - i] := hg _ ((pc_mem _ _ q hm).1 _ (List.getElem_mem hjq))
  have eu : idxD (up l R) (.int (i : Int)) = some (.tuple q) := e1
  have sm := law_same ((gd_list (l := 2) (all_cons gq (all_cons gq all_nil)) (by simp)).fit (by decide) (by decide))
  generalize q[j - i] = y at *
  generalize up l R = U at *
  have f1 : v_upper_item [U, .int (i : Int), .int (j : Int)] = .ok (y, [U, .int (i : Int), .int (j : Int)]) := by
    unfold v_upper_item
    refine run1 (ρ := [U, .int (i : Int), .int (j : Int)]) ?_ rfl rfl
    simp [c_upper_item, eu, e2]
  exact ⟨y, by simp [b__law_are_items_right_1, eu, e2, f1, la, sm]⟩
theorem inner_items {l : Nat} (hl : Ln l) {R : List D} (hR : R.length = tot l) (hg : ∀ y ∈ R, gd 110 0 y) {i : Nat} (tp : D) : ∀ (js : List Int) (a4 a5 : D), (∀ j ∈ js, (i : Int) ≤ j ∧ j < (l : Int)) →
    ∃ b4 b5, loopF (nameB 4) b__law_are_items_right_1 (js.map PyData.int) [tp, .int (l : Int), up l R, .int (i : Int), a4, a5] = .ok (.nx [tp, .int (l : Int), up l R, .int (i : Int), b4, b5])
  | [], a4, a5, _ => ⟨a4, a5, rfl⟩
  | j :: js, a4, a5, h => by
    obtain ⟨h0, h1⟩ := h j List.mem_cons_self
    obtain ⟨k, rfl⟩ : ∃ k : Nat, j = (k : Int) := ⟨j.toNat, by omega⟩
    obtain ⟨b5, e⟩ := item_step hl hR hg (i := i) (j := k) (by omega) (by omega) tp a5
    obtain ⟨c4, c5, ih⟩ := inner_items hl hR hg (i := i) tp js (.int (k : Int)) b5 fun x hx => h x (List.mem_cons_of_mem _ hx)
    refine ⟨c4, c5, ?_⟩
    show thenL (loopF (nameB 4) b__law_are_items_right_1 (js.map PyData.int)) (b__law_are_items_right_1 [tp, .int (l : Int), up l R, .int (i : Int), .int (k : Int), a5]) = _
    rw [e]
    exact ih
theorem items_right {tp : D} (h : T tp) {l : Nat} (hl : Ln l) {R : List D} (hR : R.length = tot l) (hg : ∀ y ∈ R, gd 110 0 y) : ∃ tp', T tp' ∧ v__law_are_items_right [tp, .int (l : Int), up l R] = .ok (.bool true, [tp', .int (l : Int), up l R]) := by
  have la := @lstA_of
  have h1 := hl.a
  have h9 := hl.b
  obtain ⟨ρ', e, ⟨tp', a3, a4, a5, eρ, t'⟩⟩ := loop_inv0 (b := nameB 3) (f := b__law_are_items_right_2) (fun i ρ => ∃ tp a3 a4 a5, ρ = [tp, .int (l : Int), up l R, a3, a4, a5] ∧ T tp) (rngD 0 (l : Int)) [tp, .int (l : Int), up l R, .none, .none, .none] ⟨tp, .none, .none, .none, rfl, h⟩ fun i x ρ hx ⟨tp, a3, a4, a5, eρ, t⟩ => by
    subst eρ
    obtain ⟨ex, hi⟩ := rng_get hx
    have ex : x = .int (i : Int) := by rw [ex]; congr 1; omega
    subst ex
    obtain ⟨tp', d, t', d0, d1, ed⟩ := draw_spec t (many := (l : Int) - (i : Int)) (by omega) (by omega)
    have es : ssetD (.list [.int (i : Int), .int ((l : Int) - 1), .int ((i : Int) + d)]) = some (.list ((ssI [(i : Int), (l : Int) - 1, (i : Int) + d]).map PyData.int)) := rfl
    obtain ⟨b4, b5, ei⟩ := inner_items hl hR hg (i := i) tp' (ssI [(i : Int), (l : Int) - 1, (i : Int) + d]) a4 a5 fun j hj => by
      have := (ssI_mem _ j).mp hj
      simp only [List.mem_cons, List.not_mem_nil, or_false] at this
      omega
    refine ⟨_, _, rfl, .inl ?_, tp', .int (i : Int), b4, b5, rfl, t'⟩
    generalize (ssI [(i : Int), (l : Int) - 1, (i : Int) + d]).map PyData.int = SS at *
    generalize up l R = U at *
    simp [b__law_are_items_right_2, la, ed, es, ei]
  subst eρ
  have er := rngO1 (k := (l : Int)) (by omega) (by omega)
  refine ⟨tp', t', ?_⟩
  generalize up l R = U at *
  generalize rngD 0 (l : Int) = RR at *
  unfold v__law_are_items_right
  apply run1 (he := rfl)
  · refine seq_go (by simp [er, e]; try rfl) ?_
    simp
    try rfl
  · rfl
end K18

set_option maxRecDepth 100000
set_option maxHeartbeats 4000000
namespace K18
open PySem Z
/-- a comprehension over two rows -/
def g2 (f : Int → Int → Int) : D → D
  | .tuple [.int x, .int y] => .int (f x y)
  | x => x
theorem zip_is (f : Int → Int → Int) : ∀ a b : List Int, (zipD (is a) (is b)).map (g2 f) = is (List.zipWith f a b)
  | [], b => by simp [zipD, is]
  | a :: as, [] => by simp [zipD, is]
  | a :: as, b :: bs => by
    have := zip_is f as bs
    simp only [is, List.map_cons, zipD, List.zipWith_cons_cons] at this ⊢
    rw [this]
    rfl
theorem zip_comp {b : Bd} {fe : Fn'} {vs : List Nat} (env : D → D → Env') (f : Int → Int → Int) (hb : ∀ a c x y : D, b (.tuple [x, y]) (env a c) = some (env x y)) (hw : ∀ a c, wipeE (env a c) vs = env .none .none) (A B : List Int) (hl : A.length ≤ 100000) (hf : ∀ x ∈ A, ∀ y ∈ B, fe (env (.int x) (.int y)) = .ok (.int (f x y), env (.int x) (.int y))) :
    compL b yesF fe vs (zipD (is A) (is B)) [] (env .none .none) = .ok (is (List.zipWith f A B), env .none .none) := by
  rw [← zip_is]
  refine comp_map (g2 f) _ (by rw [slv]; simp [zipD]; omega) fun d hd => ?_
  obtain ⟨i, hi⟩ := List.mem_iff_getElem?.mp hd
  unfold zipD at hi
  obtain ⟨x, y, hx, hy, rfl⟩ := List.getElem?_zipWith_eq_some.mp hi
  obtain ⟨x, hx', rfl⟩ := List.mem_map.mp (List.mem_of_getElem? hx)
  obtain ⟨y, hy', rfl⟩ := List.mem_map.mp (List.mem_of_getElem? hy)
  exact ⟨_, hb _ _ _ _, hf x hx' y hy', hw _ _⟩
theorem map_comp {b : Bd} {fe : Fn'} {vs : List Nat} (env : D → Env') (f : Int → Int) (hb : ∀ a x : D, b x (env a) = some (env x)) (hw : ∀ a, wipeE (env a) vs = env .none) (A : List Int) (hl : A.length ≤ 100000) (hf : ∀ x ∈ A, fe (env (.int x)) = .ok (.int (f x), env (.int x))) :
    compL b yesF fe vs (is A) [] (env .none) = .ok (is (A.map f), env .none) := by
  have : is (A.map f) = (is A).map (gi f) := by simp [is, gi]
  rw [this]
  refine comp_map (gi f) _ (by rw [slv]; simp; omega) fun d hd => ?_
  obtain ⟨x, hx, rfl⟩ := List.mem_map.mp hd
  exact ⟨_, hb _ _, hf x hx, hw _⟩
theorem zipO_T (a b : List D) : zipO (.tuple a) (.tuple b) = some (zipD a b) := rfl
/-! ### uppers_added -/
theorem added_loop {p : Int} (hp : 1 ≤ p) (U V : D) : ∀ (QA QB : List (List Int)) (acc : List D) (c4 c5 : D), acc.length + QA.length ≤ 1000 → (∀ q ∈ QA, q.length ≤ 1000) → ∃ b4 b5, loopF (tupB 2 (consB (nameB 4) (consB (nameB 5) nilB))) b_uppers_added_2 (zipD (tl (QA.map is)) (tl (QB.map is))) [.int p, U, V, .list acc, c4, c5, .none, .none] = .ok (.nx [.int p, U, V, .list (acc ++ tl ((List.zipWith (List.zipWith fun x y => (x + y) % p) QA QB).map is)), b4, b5, .none, .none])
  | [], QB, acc, c4, c5, _, _ => ⟨c4, c5, by simp [zipD, tl, loopF]⟩
  | _ :: _, [], acc, c4, c5, _, _ => ⟨c4, c5, by simp [zipD, tl, loopF]⟩
  | qa :: QA, qb :: QB, acc, c4, c5, h, hq => by
    simp only [List.length_cons] at h
    have hla := hq qa List.mem_cons_self
    have e := zip_comp (b := tupB 2 (consB (nameB 6) (consB (nameB 7) nilB))) (fe := e_uppers_added_1) (vs := [6, 7]) (fun a c => [.int p, U, V, .list acc, .tuple (is qa), .tuple (is qb), a, c]) (fun x y => (x + y) % p) (fun _ _ _ _ => rfl) (fun _ _ => rfl) qa qb (by omega) fun x _ y _ => by
      simp [e_uppers_added_1, okM hp]
    have ap := app_of (xs := acc) (x := .tuple (is (List.zipWith (fun x y => (x + y) % p) qa qb))) (by omega)
    have ez := zipO_T (is qa) (is qb)
    obtain ⟨b4, b5, ih⟩ := added_loop hp U V QA QB (acc ++ [.tuple (is (List.zipWith (fun x y => (x + y) % p) qa qb))]) (.tuple (is qa)) (.tuple (is qb)) (by simp; omega) fun q hq' => hq q (List.mem_cons_of_mem _ hq')
    refine ⟨b4, b5, ?_⟩
    have eb : b_uppers_added_2 [.int p, U, V, .list acc, .tuple (is qa), .tuple (is qb), .none, .none] = .ok (.nx [.int p, U, V, .list (acc ++ [.tuple (is (List.zipWith (fun x y => (x + y) % p) qa qb))]), .tuple (is qa), .tuple (is qb), .none, .none]) := by
      generalize is (List.zipWith (fun x y => (x + y) % p) qa qb) = r at *
      generalize zipD (is qa) (is qb) = zz at *
      generalize is qa = ia at *
      generalize is qb = ib at *
      simp [b_uppers_added_2, zipI, ez, e, ap]
    show thenL (loopF _ b_uppers_added_2 (zipD (tl (QA.map is)) (tl (QB.map is)))) (b_uppers_added_2 [.int p, U, V, .list acc, .tuple (is qa), .tuple (is qb), .none, .none]) = _
    rw [eb]
    show loopF _ b_uppers_added_2 (zipD (tl (QA.map is)) (tl (QB.map is))) _ = _
    rw [ih]
    simp [tl]
theorem up_is (l : Nat) (A : List Int) : up l (is A) = .tuple (tl ((Rw l A).map is)) := by
  unfold up
  rw [Rw_is]
theorem Rw_row {l : Nat} {A : List Int} (h : A.length ≤ 100) : ∀ q ∈ Rw l A, q.length ≤ 1000 := fun q hq => by
  have := (pc_mem _ _ q hq).2
  omega
theorem uppers_added {p : Int} (hp : 1 ≤ p) {l : Nat} (hl : Ln l) {A B : List Int} (hA : A.length ≤ 100) : v_uppers_added [.int p, up l (is A), up l (is B)] = .ok (up l (is (List.zipWith (fun x y => (x + y) % p) A B)), [.int p, up l (is A), up l (is B)]) := by
  have la := @lstA_of
  have h9 := hl.b
  obtain ⟨b4, b5, e⟩ := added_loop hp (up l (is A)) (up l (is B)) (Rw l A) (Rw l B) [] .none .none (by simp; omega) (Rw_row hA)
  rw [← Rw_zip, List.nil_append] at e
  have ez := zipO_T (tl ((Rw l A).map is)) (tl ((Rw l B).map is))
  rw [← up_is, ← up_is] at ez
  rw [up_is l (List.zipWith (fun x y => (x + y) % p) A B)]
  generalize tl ((Rw l (List.zipWith (fun x y => (x + y) % p) A B)).map is) = W at *
  generalize zipD (tl ((Rw l A).map is)) (tl ((Rw l B).map is)) = ZZ at *
  generalize up l (is A) = U at *
  generalize up l (is B) = V at *
  unfold v_uppers_added
  apply run1 (he := rfl)
  · refine seq_go (by simp [la]; try rfl) ?_
    refine seq_go (by simp [zipI, ez, e]; try rfl) ?_
    simp
    try rfl
  · rfl
theorem uppers_scaled {p : Int} (hp : 2 ≤ p) (hp7 : p ≤ 7) {k : Int} (hk : 0 ≤ k ∧ k < p) {l : Nat} (hl : Ln l) {A : List Int} (hA : A.length ≤ 100) : v_uppers_scaled [.int p, .int k, up l (is A)] = .ok (up l (is (A.map fun x => k * x % p)), [.int p, .int k, up l (is A)]) := by
  have h9 := hl.b
  have mk : ∀ x, okMul k x = true := fun x => okMul_l _ (by omega) (by omega)
  have e : compL (nameB 3) yesF e_uppers_scaled_2 [3] (tl ((Rw l A).map is)) [] [.int p, .int k, up l (is A), .none, .none] = .ok (tl ((Rw l (A.map fun x => k * x % p)).map is), [.int p, .int k, up l (is A), .none, .none]) := by
    have e1 : tl ((Rw l (A.map fun x => k * x % p)).map is) = (tl ((Rw l A).map is)).map fun d => match d with | .tuple xs => .tuple (xs.map (gi fun x => k * x % p)) | d => d := by
      rw [Rw_map]
      unfold tl
      simp only [List.map_map]
      refine List.map_congr_left fun q _ => ?_
      simp [is, gi]
    rw [e1]
    refine comp_map (fun d => match d with | .tuple xs => .tuple (xs.map (gi fun x => k * x % p)) | d => d) _ (by rw [slv]; simp; omega) fun d hd => ?_
    obtain ⟨q', hq', rfl⟩ := List.mem_map.mp hd
    obtain ⟨q, hq, rfl⟩ := List.mem_map.mp hq'
    have e2 := map_comp (b := nameB 4) (fe := e_uppers_scaled_1) (vs := [4]) (fun a => [.int p, .int k, up l (is A), .tuple (is q), a]) (fun x => k * x % p) (fun _ _ => rfl) (fun _ => rfl) q (by have := Rw_row hA q hq; omega) fun x _ => by
      simp [e_uppers_scaled_1, mk, okM (show (1 : Int) ≤ p by omega)]
    refine ⟨_, rfl, ?_, rfl⟩
    show e_uppers_scaled_2 [.int p, .int k, up l (is A), .tuple (is q), .none] = .ok (.tuple ((is q).map (gi fun x => k * x % p)), [.int p, .int k, up l (is A), .tuple (is q), .none])
    rw [show (is q).map (gi fun x => k * x % p) = is (q.map fun x => k * x % p) by simp [is, gi]]
    generalize is (q.map fun x => k * x % p) = r at *
    generalize is q = iq at *
    simp [e_uppers_scaled_2, e2]
  rw [up_is l (A.map fun x => k * x % p)]
  have eu := up_is l A
  rw [eu] at e ⊢
  generalize tl ((Rw l (A.map fun x => k * x % p)).map is) = W at *
  generalize tl ((Rw l A).map is) = W2 at *
  unfold v_uppers_scaled
  apply run1 (he := rfl)
  · simp [c_uppers_scaled, e]
    try rfl
  · rfl
theorem law_added {p : Int} (hp : 1 ≤ p) {k : Int} (hk : 0 ≤ k ∧ k < 10) {l : Nat} (hl : Ln l) {A B : List Int} (hA : A.length = tot l) (hB : B.length = tot l) : v__law_added [.int p, up l (is A), up l (is B), .int k] = .ok (up l (is (List.zipWith (fun x y => (x + k * y) % p) A B)), [.int p, up l (is A), up l (is B), .int k]) := by
  obtain ⟨_, ht, _⟩ := sm_tot l hl.b hl.a
  have mk : ∀ x, okMul k x = true := fun x => okMul_l _ (by omega) (by omega)
  have f1 := law_laid hl (R := is A) (by simpa using hA)
  have f2 := law_laid hl (R := is B) (by simpa using hB)
  have e := zip_comp (b := tupB 2 (consB (nameB 5) (consB (nameB 6) nilB))) (fe := e__law_added_1) (vs := [5, 6]) (fun a c => [.int p, up l (is A), up l (is B), .int k, .none, a, c]) (fun x y => (x + k * y) % p) (fun _ _ _ _ => rfl) (fun _ _ => rfl) A B (by omega) fun x _ y _ => by
    simp [e__law_added_1, mk, okM hp]
  have f3 := law_upper_of hl (X := .list (is (List.zipWith (fun x y => (x + k * y) % p) A B))) (.inr rfl)
  have ez := zipO_T (is A) (is B)
  have el : lenD (up l (is A)) = some (.int (l : Int)) := by
    show some (PyData.int ((tl (Rw l (is A))).length : Int)) = _
    simp
  generalize is (List.zipWith (fun x y => (x + k * y) % p) A B) = W at *
  generalize up l W = UW at *
  generalize zipD (is A) (is B) = ZZ at *
  generalize up l (is A) = U at *
  generalize up l (is B) = V at *
  generalize is A = iA at *
  generalize is B = iB at *
  unfold v__law_added
  apply run1 (he := rfl)
  · refine seq_go (by simp [zipI, f1, f2, ez, e]; try rfl) ?_
    simp [el, f3]
    try rfl
  · rfl
theorem with_spec {ds : List D} (hl : ds.length ≤ 100000) (k : Nat) (x : D) : v__law_with [.tuple ds, .int (k : Int), x] = .ok (.tuple (ds.take k ++ [x] ++ ds.drop (k + 1)), [.tuple ds, .int (k : Int), x]) := by
  have ta := @tupA_of
  have q1 := cut_take ds k
  have q2 := cut_drop ds (k + 1)
  have c1 : ((k + 1 : Nat) : Int) = (k : Int) + 1 := by omega
  rw [c1] at q2
  have a1 : addD (.tuple (ds.take k)) (.tuple [x]) = some (.tuple (ds.take k ++ [x])) := addD_T (by simp; omega)
  have a2 : addD (.tuple (ds.take k ++ [x])) (.tuple (ds.drop (k + 1))) = some (.tuple (ds.take k ++ [x] ++ ds.drop (k + 1))) := addD_T (by simp; omega)
  generalize ds.take k ++ [x] ++ ds.drop (k + 1) = E at *
  generalize ds.take k ++ [x] = C at *
  unfold v__law_with
  apply run1 (he := rfl)
  · simp [c__law_with, ta, q1, q2, a1, a2]
    try rfl
  · rfl
end K18

set_option maxRecDepth 100000
set_option maxHeartbeats 4000000
namespace K18
open PySem Z
def zrest (m : Nat) : List Nat := (List.range m).map fun i => m - i
theorem fz_cons (m : Nat) : fz (m + 1) (m + 1) = (m + 1) :: zrest m := by
  simp [fz, zrest, List.range_succ_eq_map]
def lt2 : D → D
  | .list xs => .tuple xs
  | d => d
def zz (s : Nat) : List D := List.replicate s (.int 0)
theorem up_zero {l : Nat} (hl : Ln l) : up l (zz (tot l)) = .tuple ((fz l l).map fun s => .tuple (zz s)) := by
  obtain ⟨h1, _, _⟩ := sm_tot l hl.b hl.a
  unfold up Rw zz
  rw [pc_rep _ _ _ (by omega)]
  simp [tl]
theorem zz_is (n : Nat) : zz n = is (List.replicate n 0) := by simp [zz, is]
theorem plain_upper {p v : Int} {m : Nat} (hl : Ln (m + 1)) : v_plain_upper [.int p, .int ((m + 1 : Nat) : Int), .int v] = .ok (.tuple (.tuple (zz m ++ [.int v]) :: (zrest m).map fun s => .tuple (zz s)), [.int p, .int ((m + 1 : Nat) : Int), .int v]) := by
  have h9 := hl.b
  have la := @lstA_of
  have c1 : compL (nameB 4) yesF e_plain_upper_1 [4] (rngD 0 ((m + 1 : Nat) : Int)) [] [.int p, .int ((m + 1 : Nat) : Int), .int v, .none, .none, .none] = .ok ((fz (m + 1) (m + 1)).map fun s => .list (zz s), [.int p, .int ((m + 1 : Nat) : Int), .int v, .none, .none, .none]) := by
    have e1 : ((fz (m + 1) (m + 1)).map fun s => PyData.list (zz s)) = (rngD 0 ((m + 1 : Nat) : Int)).map fun d => match d with | .int i => .list (zz (((m + 1 : Nat) : Int) - i).toNat) | d => d := by
      unfold fz rngD
      rw [List.map_map, List.map_map, show (((m + 1 : Nat) : Int) - 0).toNat = m + 1 by omega]
      refine List.map_congr_left fun i hi => ?_
      have := List.mem_range.mp hi
      show PyData.list (zz (m + 1 - i)) = .list (zz (((m + 1 : Nat) : Int) - (0 + (i : Int))).toNat)
      congr 2
      omega
    rw [e1]
    refine comp_map (fun d => match d with | .int i => .list (zz (((m + 1 : Nat) : Int) - i).toNat) | d => d) _ (by rw [slv, rng_len]; omega) fun d hd => ?_
    obtain ⟨j, hj⟩ := List.mem_iff_getElem?.mp hd
    obtain ⟨ex, hi⟩ := rng_get hj
    subst ex
    have ml := mulL_of (xs := [.int 0]) (k := ((m + 1 : Nat) : Int) - (0 + (j : Int))) (by omega) (by omega) (by rw [slv]; simp; omega)
    have ez : (List.replicate (((m + 1 : Nat) : Int) - (0 + (j : Int))).toNat [PyData.int 0]).flatten = zz (((m + 1 : Nat) : Int) - (0 + (j : Int))).toNat := by simp [zz]
    rw [ez] at ml
    refine ⟨_, rfl, ?_, rfl⟩
    show e_plain_upper_1 [.int p, .int ((m + 1 : Nat) : Int), .int v, .none, .int (0 + (j : Int)), .none] = .ok (.list (zz (((m + 1 : Nat) : Int) - (0 + (j : Int))).toNat), [.int p, .int ((m + 1 : Nat) : Int), .int v, .none, .int (0 + (j : Int)), .none])
    generalize zz (((m + 1 : Nat) : Int) - (0 + (j : Int))).toNat = ZZ at *
    generalize 0 + (j : Int) = J at *
    generalize ((m + 1 : Nat) : Int) = L at *
    simp [e_plain_upper_1, la, ml]
  rw [fz_cons, List.map_cons] at c1
  have c2 := comp_map (b := nameB 5) (fe := e_plain_upper_2) (vs := [5]) (ρ := [.int p, .int ((m + 1 : Nat) : Int), .int v, .list (.list (zz m ++ [.int v]) :: (zrest m).map fun s => .list (zz s)), .none, .none]) lt2 (.list (zz m ++ [.int v]) :: (zrest m).map fun s => .list (zz s)) (by rw [slv]; simp [zrest]; omega) fun d hd => by
    obtain ⟨xs, rfl⟩ : ∃ xs, d = .list xs := by
      rcases List.mem_cons.mp hd with rfl | hd
      · exact ⟨_, rfl⟩
      · obtain ⟨s, _, rfl⟩ := List.mem_map.mp hd
        exact ⟨_, rfl⟩
    refine ⟨_, rfl, ?_, rfl⟩
    show e_plain_upper_2 [.int p, .int ((m + 1 : Nat) : Int), .int v, .list (.list (zz m ++ [.int v]) :: (zrest m).map fun s => .list (zz s)), .none, .list xs] = .ok (.tuple xs, [.int p, .int ((m + 1 : Nat) : Int), .int v, .list (.list (zz m ++ [.int v]) :: (zrest m).map fun s => .list (zz s)), .none, .list xs])
    generalize PyData.list (zz m ++ [.int v]) :: (zrest m).map (fun s => PyData.list (zz s)) = G
    simp [e_plain_upper_2]
  have e2 : (PyData.list (zz m ++ [.int v]) :: (zrest m).map fun s => PyData.list (zz s)).map lt2 = .tuple (zz m ++ [.int v]) :: (zrest m).map fun s => .tuple (zz s) := by
    rw [List.map_cons, List.map_map]
    rfl
  rw [e2] at c2
  have es : setIt2K 3 0 1 (.int v) [.int p, .int ((m + 1 : Nat) : Int), .int v, .list (.list (zz (m + 1)) :: (zrest m).map fun s => .list (zz s)), .none, .none] (.list (.list (zz (m + 1)) :: (zrest m).map fun s => .list (zz s))) (.int ((m + 1 : Nat) : Int)) = .ok (.nx [.int p, .int ((m + 1 : Nat) : Int), .int v, .list (.list (zz m ++ [.int v]) :: (zrest m).map fun s => .list (zz s)), .none, .none]) := by
    have i0 : L2.ixN (PyData.list (zz (m + 1)) :: (zrest m).map fun s => PyData.list (zz s)).length 0 = some 0 := by
      unfold L2.ixN
      rw [if_pos (by decide), if_pos (by simp)]
      rfl
    have i1 : L2.ixN (zz (m + 1)).length (((m + 1 : Nat) : Int) - 1) = some m := by
      unfold L2.ixN
      rw [if_pos (by omega), if_pos (by simp [zz]; omega)]
      congr 1
      omega
    have e3 : (zz (m + 1)).set m (.int v) = zz m ++ [.int v] := by
      unfold zz
      rw [List.replicate_succ', List.set_append_right _ _ (by simp)]
      simp
    unfold setIt2K
    simp only [i0]
    simp only [List.getElem?_cons_zero, i1, e3]
    rfl
  have er := rngO1 (k := ((m + 1 : Nat) : Int)) (by omega) (by omega)
  generalize PyData.tuple (zz m ++ [.int v]) :: (zrest m).map (fun s => PyData.tuple (zz s)) = RES at *
  generalize PyData.list (zz m ++ [.int v]) :: (zrest m).map (fun s => PyData.list (zz s)) = G1 at *
  generalize PyData.list (zz (m + 1)) :: (zrest m).map (fun s => PyData.list (zz s)) = G2 at *
  generalize rngD 0 ((m + 1 : Nat) : Int) = RR at *
  generalize ((m + 1 : Nat) : Int) = L at *
  have s2 : setIt2F 3 0 1 1 (rdVar 2) [.int p, .int L, .int v, .list G2, .none, .none] = .ok (.nx [.int p, .int L, .int v, .list G1, .none, .none]) := es
  unfold v_plain_upper
  apply run1 (he := rfl)
  · refine seq_go (by simp [er, c1]; try rfl) ?_
    refine seq_go s2 ?_
    simp [c2]
    try rfl
  · rfl
theorem mulT' (n : Nat) (h : n ≤ 1000) : mulD (.tuple [.int 0]) (.int (n : Int)) = some (.tuple (is (List.replicate n 0))) := by
  rw [← is_rep]
  have := mulD_T (xs := [PyData.int 0]) (k := (n : Int)) (by omega) (by omega) (by rw [slv]; simp; omega)
  rwa [show ((n : Int)).toNat = n by omega] at this
theorem lin (p : Int) (A B : List Int) : List.zipWith (fun x y => (x + 1 * y) % p) A B = List.zipWith (fun x y => (x + y) % p) A B := by
  congr 1
  funext x y
  rw [Int.one_mul]
theorem comm (p : Int) : ∀ (A B : List Int), List.zipWith (fun x y => (x + y) % p) A B = List.zipWith (fun x y => (x + y) % p) B A
  | [], [] => rfl
  | [], _ :: _ => rfl
  | _ :: _, [] => rfl
  | a :: as, b :: bs => by
    simp only [List.zipWith_cons_cons]
    rw [comm p as bs, Int.add_comm]
theorem lin0 (p k : Int) : ∀ (A : List Int), List.zipWith (fun x y => (x + k * y) % p) (List.replicate A.length 0) A = A.map fun x => k * x % p
  | [] => rfl
  | a :: as => by
    simp only [List.length_cons, List.replicate_succ, List.zipWith_cons_cons, List.map_cons]
    rw [lin0 p k as, Int.zero_add]
theorem scl0 (p : Int) : ∀ (A : List Int), (A.map fun x => 0 * x % p) = List.replicate A.length 0
  | [] => rfl
  | a :: as => by
    simp only [List.map_cons, List.length_cons, List.replicate_succ]
    rw [scl0 p as]
    simp
theorem neg0 (p : Int) : ∀ (A : List Int), List.zipWith (fun x y => (x + y) % p) A (A.map fun x => (p - 1) * x % p) = List.replicate A.length 0
  | [] => rfl
  | a :: as => by
    simp only [List.map_cons, List.zipWith_cons_cons, List.length_cons, List.replicate_succ]
    rw [neg0 p as, Int.add_emod_emod, show a + (p - 1) * a = p * a by rw [Int.sub_mul]; omega]
    simp
theorem bel_zip {p : Int} (hp : 1 ≤ p) (f : Int → Int → Int) (A B : List Int) : bel p (List.zipWith (fun x y => f x y % p) A B) := fun y hy => by
  obtain ⟨i, hi⟩ := List.mem_iff_getElem?.mp hy
  obtain ⟨x, z, hx, hz, rfl⟩ := List.getElem?_zipWith_eq_some.mp hi
  exact ⟨Int.emod_nonneg _ (by omega), Int.emod_lt_of_pos _ (by omega)⟩
theorem bel_map {p : Int} (hp : 1 ≤ p) (f : Int → Int) (A : List Int) : bel p (A.map fun x => f x % p) := fun y hy => by
  obtain ⟨x, _, rfl⟩ := List.mem_map.mp hy
  exact ⟨Int.emod_nonneg _ (by omega), Int.emod_lt_of_pos _ (by omega)⟩
theorem gu {l : Nat} (hl : Ln l) {p : Int} (hp7 : p ≤ 7) {A : List Int} (hA : A.length = tot l) (bA : bel p A) : gd 33000 2 (up l (is A)) := gd_up hl (by simpa using hA) (gd_is hp7 bA)
theorem lst_same {ds : List D} (h : ∀ x ∈ ds, gd 33000 3 x) (hl : ds.length ≤ 100) : v__law_same [.list ds, .list ds] = .ok (.bool true, [.list ds, .list ds]) :=
  law_same ((gd_list (l := 100) h hl).fit (by decide) (by decide))
theorem sums_right {tp : D} (h : T tp) {p : Int} (hp : 2 ≤ p) (hp7 : p ≤ 7) {l : Nat} (hl : Ln l) {A B : List Int} (hA : A.length = tot l) (hB : B.length = tot l) (bA : bel p A) (bB : bel p B) :
    ∃ tp', T tp' ∧ v__law_are_sums_right [tp, .int p, .int (l : Int), up l (is A), up l (is B)] = .ok (.bool true, [tp', .int p, .int (l : Int), up l (is A), up l (is B)]) := by
  have la := @lstA_of
  have ta := @tupA_of
  have hp1 : 1 ≤ p := by omega
  obtain ⟨h1, ht, hlt⟩ := sm_tot l hl.b hl.a
  obtain ⟨tp1, d, t1, d0, d1, e1⟩ := draw_spec h (many := p) (by omega) (by omega)
  obtain ⟨tp2, x, t2, hx, e2⟩ := pick_spec t1 (xs := [PyData.int 0, .int 1, .int (p - 1), .int d]) (by simp) (by simp)
  obtain ⟨k, rfl, k0, k1⟩ : ∃ k : Int, x = .int k ∧ 0 ≤ k ∧ k < p := by
    simp only [List.mem_cons, List.not_mem_nil, or_false] at hx
    rcases hx with rfl | rfl | rfl | rfl
    · exact ⟨_, rfl, by omega, by omega⟩
    · exact ⟨_, rfl, by omega, by omega⟩
    · exact ⟨_, rfl, by omega, by omega⟩
    · exact ⟨_, rfl, by omega, by omega⟩
  have f1 := law_added hp1 (k := 1) (by decide) hl hA hB
  rw [lin] at f1
  have f2 := law_added hp1 (k := 1) (by decide) hl hB hA
  rw [lin, ← comm] at f2
  have f3 := uppers_added hp1 hl (A := A) (B := B) (by omega)
  have f4 := uppers_added hp1 hl (A := B) (B := A) (by omega)
  rw [← comm] at f4
  have lS : (List.zipWith (fun x y => (x + y) % p) A B).length = tot l := by simp; omega
  have gS := (gu hl hp7 lS (bel_zip hp1 (fun x y => x + y) A B)).up (Nat.le_refl _) (show 2 ≤ 3 by decide)
  have sm1 := lst_same (ds := [up l (is (List.zipWith (fun x y => (x + y) % p) A B)), up l (is (List.zipWith (fun x y => (x + y) % p) A B)), up l (is (List.zipWith (fun x y => (x + y) % p) A B))]) (all_cons gS (all_cons gS (all_cons gS all_nil))) (by simp)
  have sm2 := law_same (gS.fit (by decide) (by decide))
  -- none
  have mz := mulT' (tot l) (by omega)
  have f5 := law_upper_of hl (X := .tuple (is (List.replicate (tot l) 0))) (.inl rfl)
  have f6 := law_added hp1 (k := k) (by omega) hl (A := List.replicate (tot l) 0) (B := A) (by simp) hA
  rw [← hA, lin0, hA] at f6
  have f7 := uppers_scaled hp hp7 (k := k) ⟨k0, k1⟩ hl (A := A) (by omega)
  have lM : (A.map fun x => k * x % p).length = tot l := by simp; omega
  have gM := (gu hl hp7 lM (bel_map hp1 (fun x => k * x) A)).up (Nat.le_refl _) (show 2 ≤ 3 by decide)
  have sm3 := lst_same (ds := [up l (is (A.map fun x => k * x % p)), up l (is (A.map fun x => k * x % p))]) (all_cons gM (all_cons gM all_nil)) (by simp)
  have f8 := uppers_scaled hp hp7 (k := 0) ⟨by omega, by omega⟩ hl (A := B) (by omega)
  rw [scl0, hB] at f8
  have gZ := (gu hl hp7 (A := List.replicate (tot l) 0) (by simp) (bel_rep (p := p) ⟨by omega, by omega⟩)).up (Nat.le_refl _) (show 2 ≤ 3 by decide)
  have sm4 := law_same (gZ.fit (by decide) (by decide))
  have f9 := uppers_scaled hp hp7 (k := p - 1) ⟨by omega, by omega⟩ hl (A := A) (by omega)
  have f10 := uppers_added hp1 hl (A := A) (B := A.map fun x => (p - 1) * x % p) (by omega)
  rw [neg0, hA] at f10
  -- the plain one
  obtain ⟨tp3, v, t3, v0, v1, e3⟩ := draw_spec t2 (many := p) (by omega) (by omega)
  obtain ⟨m, rfl⟩ : ∃ m, l = m + 1 := ⟨l - 1, by have := hl.a; omega⟩
  have f11 := plain_upper (p := p) (v := v) hl
  have hz : up (m + 1) (is (List.replicate (tot (m + 1)) 0)) = .tuple (.tuple (zz (m + 1)) :: (zrest m).map fun s => .tuple (zz s)) := by
    rw [← zz_is, up_zero hl, fz_cons, List.map_cons]
  have f12 := with_spec (ds := .tuple (zz (m + 1)) :: (zrest m).map fun s => .tuple (zz s)) (by simp [zrest]; have := hl.b; omega) 0 (.tuple (zz m ++ [.int v]))
  rw [← hz] at f12
  have e12 : (PyData.tuple (zz (m + 1)) :: (zrest m).map fun s => PyData.tuple (zz s)).take 0 ++ [PyData.tuple (zz m ++ [.int v])] ++ (PyData.tuple (zz (m + 1)) :: (zrest m).map fun s => PyData.tuple (zz s)).drop (0 + 1) = .tuple (zz m ++ [.int v]) :: (zrest m).map fun s => .tuple (zz s) := rfl
  rw [e12, show ((0 : Nat) : Int) = 0 from rfl] at f12
  have gz : ∀ s, ∀ y ∈ zz s, gd 66 0 y := fun s y hy => by
    rw [(List.mem_replicate.mp hy).2]
    exact gd_int (by decide)
  have hm9 := hl.b
  have gP : gd 33000 3 (.tuple (.tuple (zz m ++ [.int v]) :: (zrest m).map fun s => .tuple (zz s))) := (gd_tuple (w := 1000) (n := 1) (l := 9) (all_cons ((gd_tuple (l := 9) (all_app (gz m) (all_cons (gd_int (by omega)) all_nil)) (by simp [zz]; omega)).up (by decide) (by decide)) fun y hy => by
    obtain ⟨s, hs, rfl⟩ := List.mem_map.mp hy
    obtain ⟨i, hi, rfl⟩ := List.mem_map.mp hs
    exact (gd_tuple (l := 9) (gz _) (by simp [zz]; omega)).up (by decide) (by decide)) (by simp [zrest]; omega)).up (by decide) (by decide)
  have sm5 := lst_same (all_cons gP (all_cons gP all_nil)) (by simp)
  have mzm := mulT' m (by omega)
  have hlm : ((m + 1 : Nat) : Int) - 1 = (m : Int) := by omega
  have azv : addD (.tuple (is (List.replicate m 0))) (.tuple [.int v]) = some (.tuple (zz m ++ [.int v])) := by
    rw [← zz_is]
    exact addD_T (by simp [zz]; omega)
  have m1 : okMul ((m + 1 : Nat) : Int) (((m + 1 : Nat) : Int) + 1) = true := okMul_l _ (by omega) (by omega)
  have d1' : okDiv (((m + 1 : Nat) : Int) * (((m + 1 : Nat) : Int) + 1)) 2 = true := okDiv_small (by decide) (by decide)
  have et := tot_int (m + 1) hl.b hl.a
  refine ⟨tp3, t3, ?_⟩
  clear gS gM gZ gP hz e12 h1
  generalize PyData.tuple (.tuple (zz m ++ [.int v]) :: (zrest m).map fun s => .tuple (zz s)) = PP at *
  generalize PyData.tuple (zz m ++ [.int v]) = PR at *
  generalize up (m + 1) (is (List.replicate (tot (m + 1)) 0)) = UZ at *
  generalize up (m + 1) (is (List.zipWith (fun x y => (x + y) % p) A B)) = US at *
  generalize up (m + 1) (is (A.map fun x => k * x % p)) = UM at *
  generalize up (m + 1) (is (A.map fun x => (p - 1) * x % p)) = UN at *
  generalize is (List.replicate (tot (m + 1)) 0) = IZ at *
  generalize is (List.replicate m 0) = IM at *
  generalize up (m + 1) (is A) = UA at *
  generalize up (m + 1) (is B) = UB at *
  generalize ((tot (m + 1) : Nat) : Int) = TT at *
  generalize ((m + 1 : Nat) : Int) = LL at *
  unfold v__law_are_sums_right
  apply run1 (he := rfl)
  · refine seq_go (by simp [la, e1, e2]; try rfl) ?_
    refine seq_go (by simp [f1, f2]; try rfl) ?_
    refine seq_go (by simp [la, f3, f4]; try rfl) ?_
    refine seq_go (by simp [la, sm1, sm2]; try rfl) ?_
    refine seq_go (by simp [ta, m1, d1', et, mz, f5]; try rfl) ?_
    refine seq_go (by simp [f6]; try rfl) ?_
    refine seq_go (by simp [la, f7]; try rfl) ?_
    refine seq_go (by simp [la, sm3, f8, sm4]; try rfl) ?_
    refine seq_go (by simp [f9, f10, sm4]; try rfl) ?_
    refine seq_go (by simp [e3]; try rfl) ?_
    refine seq_go (by simp [ta, hlm, mzm, azv, f12]; try rfl) ?_
    simp [la, f11, sm5]
    try rfl
  · rfl
end K18

set_option maxRecDepth 100000
set_option maxHeartbeats 4000000
namespace K18
open PySem Z
theorem pow_bound {p : Int} (hp : 1 ≤ p) (hp7 : p ≤ 7) (n : Nat) (hn : n ≤ 100) : 1 ≤ p ^ n ∧ p ^ n < 2 ^ 300 := by
  obtain ⟨q, rfl⟩ : ∃ q : Nat, p = (q : Int) := ⟨p.toNat, by omega⟩
  have h1 : 1 ≤ q ^ n := Nat.pow_pos (by omega)
  have h2 : q ^ n ≤ 7 ^ 100 := Nat.le_trans (Nat.pow_le_pow_left (by omega) n) (Nat.pow_le_pow_right (by decide) hn)
  have h3 : 7 ^ 100 < 2 ^ 300 := by decide +kernel
  have h4 : ((q : Int)) ^ n = ((q ^ n : Nat) : Int) := by simp
  have h5 : (2 : Int) ^ 300 = ((2 ^ 300 : Nat) : Int) := by simp
  rw [h4, h5]
  generalize (7 : Nat) ^ 100 = a at *
  generalize (2 : Nat) ^ 300 = b at *
  generalize q ^ n = c at *
  omega
theorem gd_pl {p : Int} (hp : 1 ≤ p) (hp7 : p ≤ 7) (n : Nat) (hn : n ≤ 100) {x : Int} (h0 : 0 ≤ x) (h1 : x ≤ p ^ n) : gd 33000 3 (.int x) := by
  have := (pow_bound hp hp7 n hn).2
  refine (gd_big (b := 300) ?_ (by decide) (by decide)).up (by decide) (by decide)
  generalize hb : (2 : Nat) ^ 300 = b
  have h5 : (2 : Int) ^ 300 = (b : Int) := by rw [← hb]; simp
  rw [h5] at this
  omega
theorem place_step {p : Int} (hp : 2 ≤ p) (hp7 : p ≤ 7) {l : Nat} (hl : Ln l) {x : Int} (h0 : 0 ≤ x) (h1 : x < p ^ tot l) (a0 a3 a5 a6 a7 a8 a10 : D) :
    ∃ b6 b10, b__law_are_places_right_1 [a0, .int p, .int (l : Int), a3, .int (tot l : Int), a5, a6, a7, a8, .int x, a10] = .ok (.nx [a0, .int p, .int (l : Int), a3, .int (tot l : Int), a5, b6, a7, a8, .int x, b10]) := by
  have la := @lstA_of
  have p1 : 1 ≤ p := by omega
  obtain ⟨_, ht, _⟩ := sm_tot l hl.b hl.a
  obtain ⟨y, e1⟩ := law_digits p1 hp7 (tot l) (by omega) x
  have hd : (dg p (tot l) x).length = tot l := by simp
  have e2 := law_upper_of hl (X := .tuple (is (dg p (tot l) x))) (.inl rfl)
  have e3 := upper_at p1 hp7 hl x
  have e4 := upper_place p1 hp7 hl (L := dg p (tot l) x) hd
  rw [val_dg p1 (tot l) x h0 h1] at e4
  have gU := (gu hl hp7 hd (dg_bel p1 _ _)).up (Nat.le_refl _) (show 2 ≤ 3 by decide)
  have gX := gd_pl p1 hp7 (tot l) (by omega) h0 (by omega)
  have sm := lst_same (ds := [up l (is (dg p (tot l) x)), up l (is (dg p (tot l) x)), .int x, .int x]) (all_cons gU (all_cons gU (all_cons gX (all_cons gX all_nil)))) (by simp)
  have ad := addD_L (xs := [up l (is (dg p (tot l) x)), up l (is (dg p (tot l) x)), .int x]) (ys := [.int x]) (by simp)
  clear gU
  generalize up l (is (dg p (tot l) x)) = U at *
  generalize is (dg p (tot l) x) = I at *
  generalize ((tot l : Nat) : Int) = TT at *
  refine ⟨.list [U, U, .int x], U, ?_⟩
  simp [b__law_are_places_right_1, la, e1, e2, e3, e4, ad, sm]
theorem places_loop {p : Int} (hp : 2 ≤ p) (hp7 : p ≤ 7) {l : Nat} (hl : Ln l) (a0 a3 a5 a7 a8 : D) : ∀ (xs : List Int) (a6 a9 a10 : D), (∀ x ∈ xs, 0 ≤ x ∧ x < p ^ tot l) → ∃ b6 b9 b10, loopF (nameB 9) b__law_are_places_right_1 (xs.map PyData.int) [a0, .int p, .int (l : Int), a3, .int (tot l : Int), a5, a6, a7, a8, a9, a10] = .ok (.nx [a0, .int p, .int (l : Int), a3, .int (tot l : Int), a5, b6, a7, a8, b9, b10])
  | [], a6, a9, a10, _ => ⟨a6, a9, a10, rfl⟩
  | x :: xs, a6, a9, a10, h => by
    obtain ⟨h0, h1⟩ := h x List.mem_cons_self
    obtain ⟨b6, b10, e⟩ := place_step hp hp7 hl h0 h1 a0 a3 a5 a6 a7 a8 a10
    obtain ⟨c6, c9, c10, ih⟩ := places_loop hp hp7 hl a0 a3 a5 a7 a8 xs b6 (.int x) b10 fun y hy => h y (List.mem_cons_of_mem _ hy)
    refine ⟨c6, c9, c10, ?_⟩
    show thenL (loopF (nameB 9) b__law_are_places_right_1 (xs.map PyData.int)) (b__law_are_places_right_1 [a0, .int p, .int (l : Int), a3, .int (tot l : Int), a5, a6, a7, a8, .int x, a10]) = _
    rw [e]
    exact ih
theorem places_right {tp : D} (h : T tp) {p : Int} (hp : 2 ≤ p) (hp7 : p ≤ 7) {l : Nat} (hl : Ln l) {A : List Int} (hA : A.length = tot l) (bA : bel p A) :
    ∃ tp', T tp' ∧ v__law_are_places_right [tp, .int p, .int (l : Int), up l (is A)] = .ok (.bool true, [tp', .int p, .int (l : Int), up l (is A)]) := by
  have la := @lstA_of
  have p1 : 1 ≤ p := by omega
  obtain ⟨_, ht, hlt⟩ := sm_tot l hl.b hl.a
  have h9 := hl.b
  have h1 := hl.a
  have m1 : okMul (l : Int) ((l : Int) + 1) = true := okMul_l _ (by omega) (by omega)
  have d1 : okDiv ((l : Int) * ((l : Int) + 1)) 2 = true := okDiv_small (by decide) (by decide)
  have et := tot_int l hl.b hl.a
  have f1 := law_laid hl (R := is A) (by simpa using hA)
  have f2 := laid_upper hl (R := is A) (by simpa using hA)
  have f3 := prog_upper_of hl (R := is A) (by simpa using hA)
  have f4 := law_power p1 hp7 (tot l) (by omega)
  have f5 := uppers_number p1 hp7 hl
  have gA : gd 33000 3 (.tuple (is A)) := (gd_tuple (l := 100) (gd_is hp7 bA) (by simp; omega)).up (by decide) (by decide)
  have gU := (gu hl hp7 hA bA).up (Nat.le_refl _) (show 2 ≤ 3 by decide)
  obtain ⟨N1, -⟩ := pow_bound p1 hp7 (tot l) (by omega)
  have gN := gd_pl p1 hp7 (tot l) (by omega) (show 0 ≤ p ^ tot l by omega) (Int.le_refl _)
  have sm := lst_same (ds := [.tuple (is A), .tuple (is A), up l (is A), up l (is A), .int (p ^ tot l), .int (p ^ tot l)]) (all_cons gA (all_cons gA (all_cons gU (all_cons gU (all_cons gN (all_cons gN all_nil)))))) (by simp)
  have ex := ext_of (xs := [.tuple (is A), .tuple (is A), up l (is A), up l (is A)]) (ys := [.int (p ^ tot l), .int (p ^ tot l)]) (by simp)
  have f6 := law_place p1 hp7 A
  obtain ⟨v0, v1⟩ := val_lt p1 A bA
  rw [hA] at v1
  obtain ⟨tp1, B, t1, hB, bB, e1⟩ := numbers_spec h hp hp7 (tot l) (by omega)
  have f7 := law_place p1 hp7 B
  obtain ⟨u0, u1⟩ := val_lt p1 B bB
  rw [hB] at u1
  have hmin : ∃ k : Int, min2D (.int (p ^ tot l)) (.int 1000) = some (.int k) ∧ 1 ≤ k ∧ k ≤ 1000 ∧ k ≤ p ^ tot l := ⟨_, rfl, by split <;> omega, by split <;> omega, by split <;> omega⟩
  obtain ⟨k, mk, k1, k2, k3⟩ := hmin
  obtain ⟨tp2, d, t2, d0, d1', e2⟩ := draw_spec t1 (many := k) k1 (by omega)
  have dv1 := okD p1 hp7 (p ^ tot l)
  have dv2 : okDiv (p ^ tot l) 2 = true := okDiv_small (by decide) (by decide)
  have np : 2 ≤ p ^ tot l := by
    obtain ⟨t, et2⟩ : ∃ t, tot l = t + 1 := ⟨tot l - 1, by omega⟩
    rw [et2, Int.pow_succ]
    have h2 := Int.mul_le_mul_of_nonneg_right (pow_bound p1 hp7 t (by omega)).1 (show 0 ≤ p by omega)
    omega
  have nq : 0 ≤ p ^ tot l / p ∧ p ^ tot l / p < p ^ tot l := ⟨Int.ediv_nonneg (by omega) (by omega), Int.ediv_lt_self_of_pos_of_ne_one (by omega) (by omega)⟩
  obtain ⟨b6, b9, b10, el⟩ := places_loop hp hp7 hl tp2 (up l (is A)) (.tuple (is A)) (.int (p ^ tot l)) (.list [.int 0, .int (p ^ tot l - 1), .int 1, .int (p ^ tot l / p), .int (val p A), .int (val p B)]) [0, p ^ tot l - 1, 1, p ^ tot l / p, val p A, val p B, p ^ tot l / 2, p ^ tot l - 1 - d] (.list [.tuple (is A), .tuple (is A), up l (is A), up l (is A), .int (p ^ tot l), .int (p ^ tot l)]) .none .none fun x hx => by
    simp only [List.mem_cons, List.not_mem_nil, or_false] at hx
    rcases hx with rfl | rfl | rfl | rfl | rfl | rfl | rfl | rfl
    · omega
    · omega
    · omega
    · exact nq
    · exact ⟨v0, v1⟩
    · exact ⟨u0, u1⟩
    · omega
    · omega
  have ad := addD_L (xs := [.int 0, .int (p ^ tot l - 1), .int 1, .int (p ^ tot l / p), .int (val p A), .int (val p B)]) (ys := [.int (p ^ tot l / 2), .int (p ^ tot l - 1 - d)]) (by simp)
  refine ⟨tp2, t2, ?_⟩
  simp only [List.map_cons, List.map_nil] at el
  clear gA gU gN nq np N1 v1 u1 k3
  generalize up l (is A) = U at *
  generalize is A = IA at *
  generalize is B = IB at *
  generalize val p A = VA at *
  generalize val p B = VB at *
  generalize p ^ tot l = N at *
  generalize ((tot l : Nat) : Int) = TT at *
  unfold v__law_are_places_right
  apply run1 (he := rfl)
  · refine seq_go (by simp [m1, d1, et, f1]; try rfl) ?_
    refine seq_go (by simp [la, f2, f3]; try rfl) ?_
    refine seq_go (by simp [f4]; try rfl) ?_
    refine seq_go (by simp [la, f5, ex]; try rfl) ?_
    refine seq_go (by simp [la, sm]; try rfl) ?_
    refine seq_go (by simp [la, dv1, f6, e1, f7]; try rfl) ?_
    refine seq_go (by simp [la, dv2, mk, e2, ad, el]; try rfl) ?_
    simp
    try rfl
  · rfl
end K18

set_option maxRecDepth 100000
set_option maxHeartbeats 4000000
namespace K18
open PySem Z
def isI : D → Bool
  | .int _ => true
  | _ => false
def inP (p : Int) : D → Bool
  | .int i => decide (0 ≤ i) && decide (i < p)
  | _ => false
def isT : D → Bool
  | .tuple _ => true
  | _ => false
theorem isi_tup' (d : D) : isiD "tuple" d = some (.bool (isT d)) := by cases d <;> rfl
def lenOk : D → Prop
  | .tuple ds => ds.length ≤ 8388608
  | _ => True
theorem lenOk_of {x : D} (h : wt x ≤ 16777216) : lenOk x := by
  cases x with
  | tuple ds => exact fit_len h
  | _ => trivial
theorem prog_int (x : D) : v_is_integer [x] = .ok (.bool (isI x), [x]) := by
  have e1 := isi_int x
  have e2 := isi_bool x
  unfold v_is_integer
  refine run1 (ρ := [x]) ?_ rfl rfl
  cases x <;> simp [c_is_integer, e1, e2, isI]
theorem prog_num (p : Int) (x : D) : v_is_number [.int p, x] = .ok (.bool (inP p x), [.int p, x]) := by
  have e1 := prog_int x
  unfold v_is_number
  refine run1 (ρ := [.int p, x]) ?_ rfl rfl
  cases x with
  | int i => by_cases c : 0 ≤ i <;> simp [c_is_number, e1, isI, inP, c]
  | _ => simp [c_is_number, e1, isI, inP]
theorem law_num (p : Int) (x : D) : v__law_is_number [.int p, x] = .ok (.bool (inP p x), [.int p, x]) := by
  have e2 := isi_int x
  have e3 := isi_bool x
  unfold v__law_is_number
  refine run1 (ρ := [.int p, x]) ?_ rfl rfl
  cases x with
  | int i => by_cases c : 0 ≤ i <;> simp [c__law_is_number, e2, e3, inP, c]
  | _ => simp [c__law_is_number, e2, e3, inP]
def form : D := .str ("form" : Str)
def rowE (i : Nat) : D := .tuple [.str ("row" : Str), .int (i : Int)]
def numE (i k : Nat) : D := .tuple [.str ("number" : Str), .int (i : Int), .int ((i : Int) + (k : Int))]
def rowK (l i : Nat) : D → Bool
  | .tuple ds => ((ds.length : Int) == (l : Int) - (i : Int))
  | _ => false
def numGo (p : Int) : List D → Nat → Option (Nat × Nat)
  | .tuple ds :: r, i => (match errGo (fun _ y => !inP p y) ds 0 with
    | some k => some (i, k)
    | none => numGo p r (i + 1))
  | _, _ => none
def upE (p : Int) (l : Nat) : D → D
  | .tuple rows => if rows.length = l then (match errGo (fun i r => !rowK l i r) rows 0 with
    | some i => rowE i
    | none => (match numGo p rows 0 with
      | some (i, k) => numE i k
      | none => .none)) else form
  | _ => form
theorem errGo_none {bad : Nat → D → Bool} : ∀ (xs : List D) (n : Nat), errGo bad xs n = none → ∀ x ∈ xs, ∃ i, bad i x = false
  | [], _, _, x, hx => nomatch hx
  | y :: ys, n, h, x, hx => by
    by_cases c : bad n y = true
    · simp [errGo, c] at h
    · simp only [errGo, if_neg c] at h
      rcases List.mem_cons.mp hx with rfl | hx
      · exact ⟨n, by simpa using c⟩
      · exact errGo_none ys (n + 1) h x hx
theorem num_loop {p : Int} {b2 : FnS} (L V : D) (hb : ∀ (i k : Nat) (row y : D), b2 [.int p, L, V, .int (i : Int), row, .int (k : Int), y] = if (!inP p y) = true then .ok (.ret (numE i k) [.int p, L, V, .int (i : Int), row, .int (k : Int), y]) else .ok (.nx [.int p, L, V, .int (i : Int), row, .int (k : Int), y])) :
    ∀ (rows : List D) (n : Nat) (a c d e : D), (∀ r ∈ rows, ∃ ds, r = .tuple ds) → ∃ a' c' d' e', loopF (tupB 2 (consB (nameB 3) (consB (nameB 4) nilB))) (forF (enumI (consA (rdVar 4) nilA)) (tupB 2 (consB (nameB 5) (consB (nameB 6) nilB))) b2) (rows.mapIdx fun i x => .tuple [.int ((i + n : Nat) : Int), x]) [.int p, L, V, a, c, d, e] = .ok (match numGo p rows n with | some (i, k) => .ret (numE i k) [.int p, L, V, a', c', d', e'] | none => .nx [.int p, L, V, a', c', d', e'])
  | [], n, a, c, d, e, _ => ⟨a, c, d, e, rfl⟩
  | r :: rows, n, a, c, d, e, h => by
    obtain ⟨ds, rfl⟩ := h r List.mem_cons_self
    have em : (PyData.tuple ds :: rows).mapIdx (fun i x => PyData.tuple [.int ((i + n : Nat) : Int), x]) = .tuple [.int (n : Int), .tuple ds] :: rows.mapIdx fun i x => .tuple [.int ((i + (n + 1) : Nat) : Int), x] := by
      rw [List.mapIdx_cons]
      congr 1
      · rw [Nat.zero_add]
      · congr 1
        funext i x
        rw [show i + 1 + n = i + (n + 1) by omega]
    obtain ⟨d', e', el⟩ := enum_findE0 (b := tupB 2 (consB (nameB 5) (consB (nameB 6) nilB))) (body := b2) (bad := fun _ y => !inP p y) (res := fun k => numE n k) (fun d e => [.int p, L, V, .int (n : Int), .tuple ds, d, e]) (fun _ _ _ _ => rfl) ds d e fun i y _ _ => hb n i (.tuple ds) y
    have ef : forF (enumI (consA (rdVar 4) nilA)) (tupB 2 (consB (nameB 5) (consB (nameB 6) nilB))) b2 [.int p, L, V, .int (n : Int), .tuple ds, d, e] = loopF (tupB 2 (consB (nameB 5) (consB (nameB 6) nilB))) b2 (enumD ds) [.int p, L, V, .int (n : Int), .tuple ds, d, e] := rfl
    rw [em]
    cases eg : errGo (fun _ y => !inP p y) ds 0 with
    | some k =>
      rw [eg] at el
      refine ⟨.int (n : Int), .tuple ds, d', e', ?_⟩
      show thenL _ (forF (enumI (consA (rdVar 4) nilA)) (tupB 2 (consB (nameB 5) (consB (nameB 6) nilB))) b2 [.int p, L, V, .int (n : Int), .tuple ds, d, e]) = _
      rw [ef, el]
      simp [numGo, eg, thenL]
    | none =>
      rw [eg] at el
      obtain ⟨a2, c2, d2, e2, ih⟩ := num_loop L V hb rows (n + 1) (.int (n : Int)) (.tuple ds) d' e' fun x hx => h x (List.mem_cons_of_mem _ hx)
      refine ⟨a2, c2, d2, e2, ?_⟩
      show thenL _ (forF (enumI (consA (rdVar 4) nilA)) (tupB 2 (consB (nameB 5) (consB (nameB 6) nilB))) b2 [.int p, L, V, .int (n : Int), .tuple ds, d, e]) = _
      rw [ef, el]
      show loopF _ _ _ _ = _
      rw [ih]
      simp [numGo, eg]
theorem rowK_eq (l i : Nat) (x : D) : (match isT x with | true => (match x with | .tuple ds => !((ds.length : Int) == (l : Int) - (i : Int)) | _ => true) | false => true) = !rowK l i x := by
  cases x <;> rfl
theorem err_run {p : Int} {l : Nat} {c : FnS} {b1 b2 b3 : FnS} (ec : c = (seqF (ifF (orF (notF (un1 (isiD "tuple") (rdVar 2))) (bin2 (neD) (mapA (one lenD) (consA (rdVar 2) nilA)) (rdVar 1))) (retF (cF (.str ("form" : Str)))) skipF) (seqF (forF (enumI (consA (rdVar 2) nilA)) (tupB 2 (consB (nameB 3) (consB (nameB 4) nilB))) b1) (seqF (forF (enumI (consA (rdVar 2) nilA)) (tupB 2 (consB (nameB 3) (consB (nameB 4) nilB))) b3) (retF (cF .none))))))
    (eb3 : b3 = forF (enumI (consA (rdVar 4) nilA)) (tupB 2 (consB (nameB 5) (consB (nameB 6) nilB))) b2)
    (hb1 : ∀ (V : D) (i : Nat) (x d e : D), b1 [.int p, .int (l : Int), V, .int (i : Int), x, d, e] = if (!rowK l i x) = true then .ok (.ret (rowE i) [.int p, .int (l : Int), V, .int (i : Int), x, d, e]) else .ok (.nx [.int p, .int (l : Int), V, .int (i : Int), x, d, e]))
    (hb2 : ∀ (V : D) (i k : Nat) (row y : D), b2 [.int p, .int (l : Int), V, .int (i : Int), row, .int (k : Int), y] = if (!inP p y) = true then .ok (.ret (numE i k) [.int p, .int (l : Int), V, .int (i : Int), row, .int (k : Int), y]) else .ok (.nx [.int p, .int (l : Int), V, .int (i : Int), row, .int (k : Int), y])) (x : D) :
    runV0 .frz 3 4 c [.int p, .int (l : Int), x] = .ok (upE p l x, [.int p, .int (l : Int), x]) := by
  have e1 := isi_tup' x
  cases x with
  | tuple rows =>
    by_cases cl : rows.length = l
    · have er : upE p l (.tuple rows) = (match errGo (fun i r => !rowK l i r) rows 0 with | some i => rowE i | none => (match numGo p rows 0 with | some (i, k) => numE i k | none => .none)) := if_pos cl
      obtain ⟨a', c', el⟩ := enum_findE0 (b := tupB 2 (consB (nameB 3) (consB (nameB 4) nilB))) (body := b1) (bad := fun i r => !rowK l i r) (res := rowE) (fun a c => [.int p, .int (l : Int), .tuple rows, a, c, .none, .none]) (fun _ _ _ _ => rfl) rows .none .none fun i y _ _ => hb1 (.tuple rows) i y .none .none
      rw [er]
      cases eg : errGo (fun i r => !rowK l i r) rows 0 with
      | some i =>
        rw [eg] at el
        refine run1 (ρ := [.int p, .int (l : Int), .tuple rows, a', c', .none, .none]) (ρ0 := [.int p, .int (l : Int), .tuple rows, .none, .none, .none, .none]) ?_ rfl rfl
        rw [ec]
        refine seq_go (by simp [e1, isT, cl]; try rfl) ?_
        simp [el]
      | none =>
        rw [eg] at el
        have ht : ∀ r ∈ rows, ∃ ds, r = PyData.tuple ds := fun r hr => by
          obtain ⟨i, hi⟩ := errGo_none rows 0 eg r hr
          cases r with
          | tuple ds => exact ⟨ds, rfl⟩
          | _ => simp [rowK] at hi
        obtain ⟨a2, c2, d2, e2, en⟩ := num_loop (p := p) (.int (l : Int)) (.tuple rows) (hb2 (.tuple rows)) rows 0 a' c' .none .none ht
        have en : loopF (tupB 2 (consB (nameB 3) (consB (nameB 4) nilB))) b3 (enumD rows) [.int p, .int (l : Int), .tuple rows, a', c', .none, .none] = .ok (match numGo p rows 0 with | some (i, k) => .ret (numE i k) [.int p, .int (l : Int), .tuple rows, a2, c2, d2, e2] | none => .nx [.int p, .int (l : Int), .tuple rows, a2, c2, d2, e2]) := by
          rw [eb3]
          exact en
        refine run1 (ρ := [.int p, .int (l : Int), .tuple rows, a2, c2, d2, e2]) (ρ0 := [.int p, .int (l : Int), .tuple rows, .none, .none, .none, .none]) ?_ rfl rfl
        rw [ec]
        refine seq_go (by simp [e1, isT, cl]; try rfl) ?_
        refine seq_go (by simp [el]; try rfl) ?_
        cases eg2 : numGo p rows 0 with
        | some z =>
          obtain ⟨i, k⟩ := z
          rw [eg2] at en
          simp [en]
        | none =>
          rw [eg2] at en
          simp [en]
    · have er : upE p l (.tuple rows) = form := if_neg cl
      have hc : (((rows.length : Int) == (l : Int))) = false := by simp; omega
      rw [er]
      refine run1 (ρ := [.int p, .int (l : Int), .tuple rows, .none, .none, .none, .none]) ?_ rfl rfl
      rw [ec]
      simp [e1, isT, cl, hc, form]
  | _ =>
    refine run1 (ρ := [.int p, .int (l : Int), _, .none, .none, .none, .none]) ?_ rfl rfl
    rw [ec]
    simp [e1, isT, upE, form]
theorem prog_err (p : Int) (l : Nat) (x : D) : v_upper_error [.int p, .int (l : Int), x] = .ok (upE p l x, [.int p, .int (l : Int), x]) := by
  have ta := @tupA_of
  refine err_run (b1 := b_upper_error_1) (b2 := b_upper_error_2) (b3 := b_upper_error_3) rfl rfl (fun V i x d e => ?_) (fun V i k row y => ?_) x
  · have e1 := isi_tup' x
    cases x with
    | tuple ds => cases c : ((ds.length : Int) == (l : Int) - (i : Int)) <;> simp [b_upper_error_1, e1, isT, rowK, rowE, ta, c]
    | _ => simp [b_upper_error_1, e1, isT, rowK, rowE, ta]
  · have e2 := prog_num p y
    cases hb : inP p y <;> (rw [hb] at e2; simp [b_upper_error_2, e2, ta, numE])
theorem law_err (p : Int) (l : Nat) (x : D) : v__law_upper_fault [.int p, .int (l : Int), x] = .ok (upE p l x, [.int p, .int (l : Int), x]) := by
  have ta := @tupA_of
  refine err_run (b1 := b__law_upper_fault_1) (b2 := b__law_upper_fault_2) (b3 := b__law_upper_fault_3) rfl rfl (fun V i x d e => ?_) (fun V i k row y => ?_) x
  · have e1 := isi_tup' x
    cases x with
    | tuple ds => cases c : ((ds.length : Int) == (l : Int) - (i : Int)) <;> simp [b__law_upper_fault_1, e1, isT, rowK, rowE, ta, c]
    | _ => simp [b__law_upper_fault_1, e1, isT, rowK, rowE, ta]
  · have e2 := law_num p y
    cases hb : inP p y <;> (rw [hb] at e2; simp [b__law_upper_fault_2, e2, ta, numE])
theorem numGo_lt {p : Int} {l : Nat} : ∀ (rows : List D) (n i k : Nat), (∀ r ∈ rows, ∀ ds, r = .tuple ds → ds.length ≤ 1000000) → numGo p rows n = some (i, k) → i < n + rows.length ∧ k ≤ 1000000
  | [], n, i, k, _, h => by simp [numGo] at h
  | r :: rows, n, i, k, hb, h => by
    cases r with
    | tuple ds =>
      have hd := hb _ List.mem_cons_self ds rfl
      cases e : errGo (fun _ y => !inP p y) ds 0 with
      | some j =>
        simp only [numGo, e, Option.some.injEq, Prod.mk.injEq] at h
        have := errGo_lt ds 0 j e
        simp
        omega
      | none =>
        simp only [numGo, e] at h
        obtain ⟨h1, h2⟩ := numGo_lt (l := l) rows (n + 1) i k (fun r hr => hb r (List.mem_cons_of_mem _ hr)) h
        simp
        omega
    | _ => simp [numGo] at h
end K18

set_option maxRecDepth 100000
set_option maxHeartbeats 8000000
namespace K18
open PySem Z
theorem all_with {p : D → Prop} {ds : List D} {x : D} {k : Nat} (h : ∀ y ∈ ds, p y) (hx : p x) : ∀ y ∈ ds.take k ++ [x] ++ ds.drop (k + 1), p y :=
  all_app (all_app (fun y hy => h y (List.mem_of_mem_take hy)) (all_cons hx all_nil)) fun y hy => h y (List.mem_of_mem_drop hy)
theorem with_len {ds : List D} {x : D} {k : Nat} : (ds.take k ++ [x] ++ ds.drop (k + 1)).length ≤ ds.length + 1 := by
  simp
  omega
theorem p30 : powD (.int 10) (.int 30) = some (.int 1000000000000000000000000000000) := by
  rw [powD_of (by decide) (by decide)]
  rfl
theorem bad_spec {tp : D} (h : T tp) {p : Int} (hp2 : 2 ≤ p) (hp7 : p ≤ 7) : ∃ tp' x, T tp' ∧ gd 150 2 x ∧ v__law_bad_number [tp, .int p] = .ok (x, [tp', .int p]) := by
  have la := @lstA_of
  have ta := @tupA_of
  have gi : ∀ i : Int, i.natAbs < 1000 → gd 150 2 (.int i) := fun i hi => (gd_int (by omega)).up (by decide) (by decide)
  have w : ∀ y ∈ [PyData.int p, .int (-1), .bool true, .bool false, .none, .str ("0" : Str), .tuple [.int 0], .int 1000000000000000000000000000000, .list [.int 0], .int (-p), .int (p + 1), .str ("" : Str), .dict [], .tuple []], gd 150 2 y := by
    refine all_cons (gi _ (by omega)) (all_cons (gi _ (by decide)) (all_cons ?_ (all_cons ?_ (all_cons ?_ (all_cons ?_ (all_cons ?_ (all_cons ?_ (all_cons ?_ (all_cons (gi _ (by omega)) (all_cons (gi _ (by omega)) (all_cons ?_ (all_cons ?_ (all_cons ?_ all_nil)))))))))))))
    all_goals
      unfold gd
      decide +kernel
  obtain ⟨tp', x, t', hx, e⟩ := pick_spec h (xs := [PyData.int p, .int (-1), .bool true, .bool false, .none, .str ("0" : Str), .tuple [.int 0], .int 1000000000000000000000000000000, .list [.int 0], .int (-p), .int (p + 1), .str ("" : Str), .dict [], .tuple []]) (by simp) (by simp)
  refine ⟨tp', x, t', w x hx, ?_⟩
  unfold v__law_bad_number
  apply run1 (he := rfl)
  · simp [c__law_bad_number, la, ta, p30, e]
    try rfl
  · rfl
theorem str0 : ∀ n : Nat, n < 40 → gd 402 0 (.str (Txt.mul ("0" : Str) (n : Int))) := by
  unfold gd
  decide +kernel
theorem pick_of {P : D → Prop} {L : List D} (w : ∀ x ∈ L, P x) {tp : D} (h : T tp) (h0 : L ≠ []) (hl : L.length ≤ 1000000) : ∃ tp' x, T tp' ∧ P x ∧ v__law_pick [tp, .list L] = .ok (x, [tp', .list L]) := by
  obtain ⟨tp', x, t, hx, e⟩ := pick_spec h h0 hl
  exact ⟨tp', x, t, w x hx, e⟩
theorem neT {ds : List D} (h : ∀ x ∈ ds, x.canLay0 = true ∧ x.depth ≤ 60) : neD (.tuple ds) (.tuple []) = some (.bool (!ds.isEmpty)) := by
  show (if _ then _ else _) = _
  rw [if_pos ⟨shaped_of (by simpa [PyData.canLay0] using lay_all fun x hx => (h x hx).1) (by have := dep_all fun x hx => (h x hx).2; simp only [PyData.depth]; omega), by decide⟩]
  cases ds <;> rfl
/-- an item -/
abbrev gq (y : D) : Prop := gl 110 0 y
theorem mulS (n : Nat) (h : n < 40) : mulD (.str ("0" : Str)) (.int (n : Int)) = some (.str (Txt.mul ("0" : Str) (n : Int))) := if_pos (by
  unfold okRepS
  rw [cb_true (by omega), cb_true (by omega), cb_true (by decide)]
  rfl)
theorem spot {tp : D} (h : T tp) {n : Nat} (h0 : 1 ≤ n) (h1 : n ≤ 1000) : ∃ tp1 d tp2, ∃ k : Nat, T tp2 ∧ k < n ∧ v__law_draw [tp, .int (n : Int)] = .ok (.int d, [tp1, .int (n : Int)]) ∧ v__law_pick [tp1, .list [.int 0, .int ((n : Int) - 1), .int d]] = .ok (.int (k : Int), [tp2, .list [.int 0, .int ((n : Int) - 1), .int d]]) := by
  obtain ⟨tp1, d, t1, d0, d1, e1⟩ := draw_spec h (many := (n : Int)) (by omega) (by omega)
  obtain ⟨tp2, z, t2, hz, e2⟩ := pick_spec t1 (xs := [PyData.int 0, .int ((n : Int) - 1), .int d]) (by simp) (by simp)
  obtain ⟨k, rfl, hk⟩ : ∃ k : Nat, z = .int (k : Int) ∧ k < n := by
    simp only [List.mem_cons, List.not_mem_nil, or_false] at hz
    rcases hz with rfl | rfl | rfl
    · exact ⟨0, rfl, by omega⟩
    · exact ⟨n - 1, by congr 1; omega, by omega⟩
    · exact ⟨d.toNat, by congr 1; omega, by omega⟩
  exact ⟨tp1, d, tp2, k, t2, hk, e1, e2⟩
abbrev Gr (x : D) : Prop := gd 6000 4 x
theorem bad_row {tp : D} (h : T tp) {p : Int} (hp2 : 2 ≤ p) (hp7 : p ≤ 7) {q : List D} (hq : ∀ y ∈ q, gq y) (h0 : 1 ≤ q.length) (h1 : q.length ≤ 36) : ∃ tp' x, T tp' ∧ Gr x ∧ v__law_bad_row [tp, .int p, .tuple q] = .ok (x, [tp', .int p, .tuple q]) := by
  have la := @lstA_of
  have ta := @tupA_of
  have hne := neT (ds := q) fun x hx => ⟨(hq x hx).2, by have := (hq x hx).1.2.2; omega⟩
  have hem : q.isEmpty = false := by
    cases q with
    | nil => simp at h0
    | cons => rfl
  rw [hem] at hne
  have g0 : ∀ y ∈ q, gd 150 2 y := fun y hy => (hq y hy).1.up (by decide) (by decide)
  obtain ⟨tp1, w, t1, w0, w1, e1⟩ := draw_spec h (many := 6) (by decide) (by decide)
  by_cases c : w < 3
  · obtain ⟨tp2, d, tp3, k, t3, hk, e2, e3⟩ := spot t1 h0 (by omega)
    obtain ⟨tp4, b, t4, gb, e4⟩ := bad_spec t3 hp2 hp7
    have ew := with_spec (ds := q) (by omega) k b
    refine ⟨tp4, .tuple (q.take k ++ [b] ++ q.drop (k + 1)), t4, (gd_tuple (l := 37) (w := 150) (n := 2) (all_with g0 gb) (by have := with_len (ds := q) (x := b) (k := k); omega)).up (by decide) (by decide), ?_⟩
    generalize q.take k ++ [b] ++ q.drop (k + 1) = E at *
    generalize hnn : (q.length : Int) = n at *
    unfold v__law_bad_row
    apply run1 (he := rfl)
    · refine seq_go (by simp [e1]; try rfl) ?_
      simp [c, ta, hne, la, hnn, e2, e3, e4, ew]
      try rfl
    · rfl
  · have a1 := addD_T (xs := q) (ys := [.int 0]) (by simp; omega)
    have a2 := addD_T (xs := q) (ys := [.none]) (by simp; omega)
    have ms := mulS q.length (by omega)
    have cl := cut_len q (some 1) none
    have gn : gd 150 2 (.int 0) := (gd_int (by decide)).up (by decide) (by decide)
    have w : ∀ x ∈ [PyData.tuple (q ++ [.int 0]), .tuple (cutD q (some 1) none), .list q, .none, .int 0, .str (Txt.mul ("0" : Str) (q.length : Int)), .dict [], .tuple [.tuple q], .tuple (q ++ [.none])], Gr x := by
      refine all_cons ?_ (all_cons ?_ (all_cons ?_ (all_cons ?_ (all_cons ?_ (all_cons ?_ (all_cons ?_ (all_cons ?_ (all_cons ?_ all_nil))))))))
      · exact (gd_tuple (l := 37) (all_app g0 (all_cons gn all_nil)) (by simp; omega)).up (by decide) (by decide)
      · exact (gd_tuple (l := 36) (all_cut g0) (by omega)).up (by decide) (by decide)
      · exact (gd_list (l := 36) g0 h1).up (by decide) (by decide)
      · exact gd_none.up (by decide) (by decide)
      · exact gn.up (by decide) (by decide)
      · exact (str0 _ (by omega)).up (by decide) (by decide)
      · unfold Gr gd
        decide +kernel
      · exact (gd_tuple (l := 1) (w := 5476) (n := 3) (all_cons (gd_tuple (l := 36) (w := 150) (n := 2) g0 h1) all_nil) (by simp)).up (by decide) (by decide)
      · exact (gd_tuple (l := 37) (all_app g0 (all_cons (gd_none.up (by decide) (by decide)) all_nil)) (by simp; omega)).up (by decide) (by decide)
    obtain ⟨tp2, x, t2, gx, e2⟩ := pick_of w t1 (by simp) (by simp)
    refine ⟨tp2, x, t2, gx, ?_⟩
    clear w
    generalize hc1 : cutD q (some 1) none = z1 at *
    generalize q ++ [PyData.int 0] = z2 at *
    generalize q ++ [PyData.none] = z3 at *
    generalize Txt.mul ("0" : Str) (q.length : Int) = z4 at *
    generalize hnn : (q.length : Int) = n at *
    unfold v__law_bad_row
    apply run1 (he := rfl)
    · refine seq_go (by simp [e1]; try rfl) ?_
      refine seq_go (by simp [c]; try rfl) ?_
      refine seq_go (by simp [la, ta, a1, a2, hne, hc1, hnn, ms]; try rfl) ?_
      simp [e2]
      try rfl
    · rfl
/-- the rows of an upper -/
structure Up (l : Nat) (Q : List (List D)) : Prop where
  len : Q.length = l
  l0 : 1 ≤ l
  l9 : l < 9
  row : ∀ q ∈ Q, (∀ y ∈ q, gq y) ∧ 1 ≤ q.length ∧ q.length ≤ 36
  flat : Q.flatten.length ≤ 36
  laid : v__law_laid [.tuple (tl Q)] = .ok (.tuple Q.flatten, [.tuple (tl Q)])
theorem up_of {l : Nat} (hl : Ln l) {p : Int} (hp7 : p ≤ 7) {A : List Int} (hA : A.length = tot l) (bA : bel p A) : Up l (Rw l (is A)) := by
  obtain ⟨h1, ht, hlt⟩ := sm_tot l hl.b hl.a
  have hR : (is A).length = tot l := by simpa using hA
  refine ⟨by simp, hl.a, hl.b, fun q hq => ?_, by rw [Rw_flat hl hR, hR]; exact ht, ?_⟩
  · obtain ⟨a, b⟩ := pc_mem _ _ q hq
    obtain ⟨i, hi⟩ := List.mem_iff_getElem?.mp hq
    have hil : i < l := by
      have := (List.getElem?_eq_some_iff.mp hi).1
      simpa using this
    obtain ⟨q2, e2, l2⟩ := Rw_get hl hR hil
    rw [hi] at e2
    cases e2
    refine ⟨fun y hy => ?_, by omega, by omega⟩
    obtain ⟨x, hx, rfl⟩ := List.mem_map.mp (a y hy)
    have := bA x hx
    exact (gl_int (by omega)).up (by decide) (by decide)
  · rw [Rw_flat hl hR]
    exact law_laid hl hR
abbrev Gu (x : D) : Prop := gd 60000 6 x
theorem Up.gr {l : Nat} {Q : List (List D)} (h : Up l Q) : ∀ y ∈ tl Q, gd 6000 4 y := fun y hy => by
  obtain ⟨q, hq, rfl⟩ := List.mem_map.mp hy
  obtain ⟨a, b, c⟩ := h.row q hq
  exact (gd_tuple (l := 36) (fun z hz => (a z hz).1) c).up (by decide) (by decide)
theorem Up.at {l : Nat} {Q : List (List D)} (h : Up l Q) {k : Nat} (hk : k < l) : ∃ q, L2.atI (tl Q) (k : Int) = some (.tuple q) ∧ q ∈ Q := by
  refine ⟨Q[k]'(by have := h.len; omega), ?_, List.getElem_mem _⟩
  rw [atI_nat]
  unfold tl
  rw [List.getElem?_map, List.getElem?_eq_getElem (by have := h.len; omega)]
  rfl
theorem gtu {w n l : Nat} {ds : List D} (h : ∀ x ∈ ds, gd w n x) (hl : ds.length ≤ l) (hw : (w + 2) * l + 4 ≤ 60000) (hn : n ≤ 5) : Gu (.tuple ds) := (gd_tuple h hl).up hw (by omega)
theorem glu {w n l : Nat} {ds : List D} (h : ∀ x ∈ ds, gd w n x) (hl : ds.length ≤ l) (hw : (w + 2) * l + 4 ≤ 60000) (hn : n ≤ 5) : Gu (.list ds) := (gd_list h hl).up hw (by omega)
theorem bad_upper {tp : D} (h : T tp) {p : Int} (hp2 : 2 ≤ p) (hp7 : p ≤ 7) {l : Nat} {Q : List (List D)} (U : Up l Q) : ∃ tp' x, T tp' ∧ Gu x ∧ v__law_bad_upper [tp, .int p, .tuple (tl Q)] = .ok (x, [tp', .int p, .tuple (tl Q)]) := by
  have la := @lstA_of
  have ta := @tupA_of
  have hl0 := U.l0
  have hl9 := U.l9
  have hlen : (tl Q).length = l := by rw [tl_len]; exact U.len
  have gr := U.gr
  obtain ⟨tp1, w, t1, w0, w1, e1⟩ := draw_spec h (many := 6) (by decide) (by decide)
  by_cases c : 0 < w
  · obtain ⟨tp2, d, tp3, k, t3, hk, e2, e3⟩ := spot t1 hl0 (by omega)
    obtain ⟨q, eq, hq⟩ := U.at hk
    obtain ⟨q1, q2, q3⟩ := U.row q hq
    obtain ⟨tp4, b, t4, gb, e4⟩ := bad_row t3 hp2 hp7 q1 q2 q3
    have ew := with_spec (ds := tl Q) (by omega) k b
    refine ⟨tp4, .tuple ((tl Q).take k ++ [b] ++ (tl Q).drop (k + 1)), t4, gtu (l := 9) (all_with gr gb) (by have := with_len (ds := tl Q) (x := b) (k := k); omega) (by decide) (by decide), ?_⟩
    generalize (tl Q).take k ++ [b] ++ (tl Q).drop (k + 1) = E at *
    have hln : ((tl Q).length : Int) = (l : Int) := by omega
    generalize tl Q = TQ at *
    unfold v__law_bad_upper
    apply run1 (he := rfl)
    · refine seq_go (by simp [e1]; try rfl) ?_
      simp [c, ta, la, hln, e2, e3, eq, e4, ew]
      try rfl
    · rfl
  · have a1 := addD_T (xs := tl Q) (ys := [.tuple []]) (by simp; have := U.len; omega)
    have c1 := cut_len (tl Q) (some 1) none
    have c2 := cut_len (tl Q) none (some (-1))
    have ge : gd 6000 4 (.tuple []) := by
      unfold gd
      decide +kernel
    have gfl : ∀ y ∈ Q.flatten, gd 110 0 y := fun y hy => by
      obtain ⟨q, hq, hy⟩ := List.mem_flatten.mp hy
      exact ((U.row q hq).1 y hy).1
    have mN := mulD_T (xs := [.none]) (k := (l : Int)) (by omega) (by omega) (by rw [slv]; simp; omega)
    rw [show ((l : Int)).toNat = l by omega] at mN
    have gT : gd 55000 5 (.tuple (tl Q)) := (gd_tuple (l := 9) gr (by omega)).up (by decide) (by decide)
    have fl := U.flat
    have w : ∀ x ∈ [PyData.tuple (tl Q ++ [.tuple []]), .tuple (cutD (tl Q) none (some (-1))), .tuple (cutD (tl Q) (some 1) none), .list (tl Q), .none, .tuple [], .int 0, .str ("upper" : Str), .dict [], .tuple Q.flatten, .tuple (tl Q).reverse, .tuple [.tuple (tl Q)], .list [.tuple (tl Q)], .bool true, .tuple (List.replicate l [PyData.none]).flatten], Gu x := by
      refine all_cons ?_ (all_cons ?_ (all_cons ?_ (all_cons ?_ (all_cons ?_ (all_cons ?_ (all_cons ?_ (all_cons ?_ (all_cons ?_ (all_cons ?_ (all_cons ?_ (all_cons ?_ (all_cons ?_ (all_cons ?_ (all_cons ?_ all_nil))))))))))))))
      · exact gtu (l := 9) (all_app gr (all_cons ge all_nil)) (by simp; have := U.len; omega) (by decide) (by decide)
      · exact gtu (l := 9) (all_cut gr) (by omega) (by decide) (by decide)
      · exact gtu (l := 9) (all_cut gr) (by omega) (by decide) (by decide)
      · exact glu (l := 9) gr (by omega) (by decide) (by decide)
      · exact gd_none.up (by decide) (by decide)
      · exact ge.up (by decide) (by decide)
      · exact (gd_int (by decide)).up (by decide) (by decide)
      · unfold Gu gd
        decide +kernel
      · unfold Gu gd
        decide +kernel
      · exact gtu (l := 36) gfl fl (by decide) (by decide)
      · exact gtu (l := 9) (fun y hy => gr y (List.mem_reverse.mp hy)) (by simp; have := U.len; omega) (by decide) (by decide)
      · exact gtu (l := 1) (all_cons gT all_nil) (by simp) (by decide) (by decide)
      · exact glu (l := 1) (all_cons gT all_nil) (by simp) (by decide) (by decide)
      · exact (gd_bool _).up (by decide) (by decide)
      · exact gtu (l := 9) (all_rep (all_cons gd_none all_nil)) (by simp; omega) (by decide) (by decide)
    obtain ⟨tp2, x, t2, gx, e2⟩ := pick_of w t1 (by simp) (by simp)
    refine ⟨tp2, x, t2, gx, ?_⟩
    have hln : ((tl Q).length : Int) = (l : Int) := by omega
    have eL := U.laid
    have ad := addD_L (xs := [PyData.tuple (tl Q ++ [.tuple []]), .tuple (cutD (tl Q) none (some (-1))), .tuple (cutD (tl Q) (some 1) none), .list (tl Q), .none, .tuple [], .int 0, .str ("upper" : Str), .dict [], .tuple Q.flatten]) (ys := [.tuple (tl Q).reverse, .tuple [.tuple (tl Q)], .list [.tuple (tl Q)], .bool true, .tuple (List.replicate l [PyData.none]).flatten]) (by simp)
    have rv : revD (.tuple (tl Q)) = some (.tuple (tl Q).reverse) := rfl
    clear w gT gr gfl c1 c2 hlen
    generalize hz1 : cutD (tl Q) none (some (-1)) = z1 at *
    generalize hz2 : cutD (tl Q) (some 1) none = z2 at *
    generalize tl Q ++ [PyData.tuple []] = z3 at *
    generalize (tl Q).reverse = z4 at *
    generalize Q.flatten = z5 at *
    generalize (List.replicate l [PyData.none]).flatten = z6 at *
    generalize tl Q = TQ at *
    unfold v__law_bad_upper
    apply run1 (he := rfl)
    · refine seq_go (by simp [e1]; try rfl) ?_
      refine seq_go (by simp [c]; try rfl) ?_
      refine seq_go (by simp [la, ta, a1, hz1, hz2, eL]; try rfl) ?_
      simp [la, ta, rv, hln, mN, ad, e2]
      try rfl
    · rfl
end K18

set_option maxRecDepth 100000
set_option maxHeartbeats 8000000
namespace K18
open PySem Z
abbrev Gw (x : D) : Prop := gd 500000 8 x
theorem gd_mem0 {w n : Nat} : ∀ {ds : List D}, rkAll ds = true → wtAll ds ≤ w → PyData.depthAll ds ≤ n → ∀ x ∈ ds, gd w n x
  | [], _, _, _, x, hx => nomatch hx
  | d :: ds, h1, h2, h3, x, hx => by
    simp only [rkAll, Bool.and_eq_true] at h1
    simp only [wtAll] at h2
    simp only [PyData.depthAll] at h3
    rcases List.mem_cons.mp hx with rfl | hx
    · exact ⟨h1.1, by omega, by omega⟩
    · exact gd_mem0 h1.2 (by omega) (by omega) x hx
theorem gd_mem {w n : Nat} {ds : List D} (h : gd w (n + 1) (.tuple ds)) : ∀ x ∈ ds, gd w n x := by
  obtain ⟨h1, h2, h3⟩ := h
  simp only [rk] at h1
  simp only [wt] at h2
  simp only [PyData.depth] at h3
  exact gd_mem0 h1 (by omega) (by omega)
theorem law_upper {tp : D} (h : T tp) {p : Int} (hp2 : 2 ≤ p) (hp7 : p ≤ 7) {l : Nat} (hl : Ln l) : ∃ tp' A, T tp' ∧ A.length = tot l ∧ bel p A ∧ v__law_upper [tp, .int p, .int (l : Int)] = .ok (up l (is A), [tp', .int p, .int (l : Int)]) := by
  obtain ⟨_, ht, _⟩ := sm_tot l hl.b hl.a
  have h9 := hl.b
  have m1 : okMul (l : Int) ((l : Int) + 1) = true := okMul_l _ (by omega) (by omega)
  have d1 : okDiv ((l : Int) * ((l : Int) + 1)) 2 = true := okDiv_small (by decide) (by decide)
  have et := tot_int l hl.b hl.a
  obtain ⟨tp', A, t', hA, bA, e1⟩ := numbers_spec h hp2 hp7 (tot l) (by omega)
  have e2 := law_upper_of hl (X := .tuple (is A)) (.inl rfl)
  refine ⟨tp', A, t', hA, bA, ?_⟩
  generalize up l (is A) = U at *
  generalize is A = I at *
  unfold v__law_upper
  apply run1 (he := rfl)
  · simp [c__law_upper, m1, d1, et, e1, e2]
    try rfl
  · rfl
theorem val1 {p : Int} (hp2 : 2 ≤ p) (hp7 : p ≤ 7) {l : Nat} {Q : List (List D)} (U : Up l Q) {tp : D} (h : T tp) (vs : List D) (hv : vs.length ≤ 100) (a5 a6 a7 a8 a9 : D) :
    ∃ tp' x, T tp' ∧ Gw x ∧ b__law_values_1 [tp, .int p, .int (l : Int), .tuple (tl Q), .list vs, a5, a6, a7, a8, a9] = .ok (.nx [tp', .int p, .int (l : Int), .tuple (tl Q), .list (vs ++ [x]), a5, a6, a7, a8, a9]) := by
  obtain ⟨tp1, x, t1, gx, e1⟩ := bad_upper h hp2 hp7 U
  have ap := app_of (xs := vs) (x := x) (by omega)
  refine ⟨tp1, x, t1, gx.up (by decide) (by decide), ?_⟩
  generalize tl Q = TQ at *
  simp [b__law_values_1, e1, ap]
theorem val2 {p : Int} (hp2 : 2 ≤ p) (hp7 : p ≤ 7) {l : Nat} {Q : List (List D)} (U : Up l Q) {tp : D} (h : T tp) (vs : List D) (hv : vs.length ≤ 100) (a5 a6 a7 a8 a9 : D) :
    ∃ tp' ws b6 b7, T tp' ∧ (∀ x ∈ ws, Gw x) ∧ ws.length ≤ 1 ∧ b__law_values_2 [tp, .int p, .int (l : Int), .tuple (tl Q), .list vs, a5, a6, a7, a8, a9] = .ok (.nx [tp', .int p, .int (l : Int), .tuple (tl Q), .list (vs ++ ws), a5, b6, b7, a8, a9]) := by
  have hl0 := U.l0
  have hl9 := U.l9
  obtain ⟨tp1, x, t1, gx, e1⟩ := bad_upper h hp2 hp7 U
  obtain ⟨tp2, d, t2, d0, d1, e2⟩ := draw_spec t1 (many := (l : Int)) (by omega) (by omega)
  obtain ⟨k, rfl⟩ : ∃ k : Nat, d = (k : Int) := ⟨d.toNat, by omega⟩
  have eT := isi_tup' x
  have plain : (isT x = false ∨ ∃ ds, x = .tuple ds ∧ ds.length ≠ l) → ∃ tp' ws b6 b7, T tp' ∧ (∀ x ∈ ws, Gw x) ∧ ws.length ≤ 1 ∧ b__law_values_2 [tp, .int p, .int (l : Int), .tuple (tl Q), .list vs, a5, a6, a7, a8, a9] = .ok (.nx [tp', .int p, .int (l : Int), .tuple (tl Q), .list (vs ++ ws), a5, b6, b7, a8, a9]) := fun hc => by
    refine ⟨tp2, [], x, .int (k : Int), t2, all_nil, by simp, ?_⟩
    generalize tl Q = TQ at *
    rcases hc with hc | ⟨ds, rfl, hc⟩
    · simp [b__law_values_2, e1, e2, eT, hc]
    · have hd : ((ds.length : Int) == (l : Int)) = false := by simp; omega
      simp [b__law_values_2, e1, e2, eT, isT, hd, hc]
  cases x with
  | tuple ds =>
    by_cases hd : ds.length = l
    · obtain ⟨q, eq, hq⟩ := U.at (k := k) (by omega)
      obtain ⟨q1, q2, q3⟩ := U.row q hq
      obtain ⟨tp3, b, t3, gb, e3⟩ := bad_row t2 hp2 hp7 q1 q2 q3
      have ew := with_spec (ds := ds) (by omega) k b
      have gds : ∀ y ∈ ds, gd 60000 5 y := gd_mem gx
      have hwl := with_len (ds := ds) (x := b) (k := k)
      have gw : Gw (.tuple (ds.take k ++ [b] ++ ds.drop (k + 1))) := by
        by_cases hk : True
        · have hln : (ds.take k ++ [b] ++ ds.drop (k + 1)).length ≤ 8 := by simp; omega
          exact (gd_tuple (l := 8) (all_with gds (gb.up (by decide) (by decide))) hln).up (by decide) (by decide)
        · exact absurd trivial hk
      have ap := app_of (xs := vs) (x := .tuple (ds.take k ++ [b] ++ ds.drop (k + 1))) (by omega)
      refine ⟨tp3, [.tuple (ds.take k ++ [b] ++ ds.drop (k + 1))], .tuple ds, .int (k : Int), t3, all_cons gw all_nil, by simp, ?_⟩
      have hd' : ((ds.length : Int) == (l : Int)) = true := by simp [hd]
      generalize ds.take k ++ [b] ++ ds.drop (k + 1) = E at *
      generalize tl Q = TQ at *
      simp [b__law_values_2, e1, e2, eT, isT, hd, eq, e3, ew, ap]
    · exact plain (.inr ⟨ds, rfl, hd⟩)
  | _ => exact plain (.inl rfl)
theorem values_spec {p : Int} (hp2 : 2 ≤ p) (hp7 : p ≤ 7) {l : Nat} (hl : Ln l) {Q : List (List D)} (U : Up l Q) {tp : D} (h : T tp) :
    ∃ tp' vs, T tp' ∧ (∀ x ∈ vs, Gw x) ∧ vs.length ≤ 100 ∧ v__law_values [tp, .int p, .int (l : Int), .tuple (tl Q)] = .ok (.list vs, [tp', .int p, .int (l : Int), .tuple (tl Q)]) := by
  have la := @lstA_of
  have ta := @tupA_of
  have hl0 := U.l0
  have hl9 := U.l9
  have hlen : (tl Q).length = l := by rw [tl_len]; exact U.len
  have gr := U.gr
  have gT : gd 55000 5 (.tuple (tl Q)) := (gd_tuple (l := 9) gr (by omega)).up (by decide) (by decide)
  obtain ⟨tp1, A, t1, hA, bA, e1⟩ := law_upper h hp2 hp7 hl
  have gA : Gw (up l (is A)) := (gu hl hp7 hA bA).up (by decide) (by decide)
  -- eight
  obtain ⟨ρ', el1, ⟨tp2, v2, c5, eρ, t2, g2, hl2⟩⟩ := loop_inv0 (b := nameB 5) (f := b__law_values_1) (fun i ρ => ∃ tp vs a5, ρ = [tp, .int p, .int (l : Int), .tuple (tl Q), .list vs, a5, .none, .none, .none, .none] ∧ T tp ∧ (∀ x ∈ vs, Gw x) ∧ vs.length = 2 + i) (rngD 0 8) [tp1, .int p, .int (l : Int), .tuple (tl Q), .list [.tuple (tl Q), up l (is A)], .none, .none, .none, .none, .none] ⟨tp1, _, .none, rfl, t1, all_cons (gT.up (by decide) (by decide)) (all_cons gA all_nil), rfl⟩ fun i x ρ hx ⟨tp, vs, a5, eρ, t, g, hlv⟩ => by
    subst eρ
    have hi : i < 8 := by
      have := (List.getElem?_eq_some_iff.mp hx).1
      rw [rng_len] at this
      omega
    obtain ⟨tp', y, t', gy, e⟩ := val1 hp2 hp7 U t vs (by omega) x .none .none .none .none
    exact ⟨_, _, rfl, .inl e, tp', _, x, rfl, t', all_app g (all_cons gy all_nil), by simp; omega⟩
  subst eρ
  rw [rng_len] at hl2
  have hl2 : v2.length = 10 := hl2
  -- four
  obtain ⟨ρ', el2, ⟨tp3, v3, d5, d6, d7, eρ, t3, g3, hl3⟩⟩ := loop_inv0 (b := nameB 5) (f := b__law_values_2) (fun i ρ => ∃ tp vs a5 a6 a7, ρ = [tp, .int p, .int (l : Int), .tuple (tl Q), .list vs, a5, a6, a7, .none, .none] ∧ T tp ∧ (∀ x ∈ vs, Gw x) ∧ vs.length ≤ 10 + i) (rngD 0 4) [tp2, .int p, .int (l : Int), .tuple (tl Q), .list v2, c5, .none, .none, .none, .none] ⟨tp2, v2, c5, .none, .none, rfl, t2, g2, by omega⟩ fun i x ρ hx ⟨tp, vs, a5, a6, a7, eρ, t, g, hlv⟩ => by
    subst eρ
    have hi : i < 4 := by
      have := (List.getElem?_eq_some_iff.mp hx).1
      rw [rng_len] at this
      omega
    obtain ⟨tp', ws, b6, b7, t', gw, hw, e⟩ := val2 hp2 hp7 U t vs (by omega) x a6 a7 .none .none
    exact ⟨_, _, rfl, .inl e, tp', _, x, b6, b7, rfl, t', all_app g gw, by simp; omega⟩
  subst eρ
  rw [rng_len] at hl3
  have hl3 : v3.length ≤ 14 := hl3
  -- the last rows
  have hne : tl Q ≠ [] := by intro z; rw [z] at hlen; simp at hlen; omega
  obtain ⟨qz, eqz, hqz⟩ := U.at (k := l - 1) (by omega)
  have elast : L2.atI (tl Q) (-1) = some (.tuple qz) := by
    rw [atI_nat] at eqz
    rw [atI_last hne, List.getLast_eq_getElem]
    rw [List.getElem?_eq_getElem (by omega)] at eqz
    simp only [hlen]
    exact eqz
  obtain ⟨z1, z2, z3⟩ := U.row qz hqz
  obtain ⟨q0, eq0, hq0⟩ := U.at (k := 0) (by omega)
  rw [show ((0 : Nat) : Int) = 0 from rfl] at eq0
  obtain ⟨y1, y2, y3⟩ := U.row q0 hq0
  have g0 : ∀ y ∈ q0, gd 150 2 y := fun y hy => (y1 y hy).1.up (by decide) (by decide)
  have gz : ∀ y ∈ qz, gd 150 2 y := fun y hy => (z1 y hy).1.up (by decide) (by decide)
  obtain ⟨tp4, b1, t4, gb1, e4⟩ := bad_spec t3 hp2 hp7
  have ew1 := with_spec (ds := tl Q) (by omega) (l - 1) (.tuple [b1])
  rw [show ((l - 1 : Nat) : Int) = (l : Int) - 1 by omega] at ew1
  have W : ∀ {x : D} (k : Nat) (ds : List D), (∀ y ∈ ds, gd 6000 4 y) → ds.length = l → gd 6000 4 x → gd 60100 5 (.tuple (ds.take k ++ [x] ++ ds.drop (k + 1))) := fun {x} k ds hds hl hx => (gd_tuple (l := 10) (all_with hds hx) (by have := with_len (ds := ds) (x := x) (k := k); omega)).up (by decide) (by decide)
  have gx1 := W (l - 1) (tl Q) gr hlen ((gd_tuple (l := 1) (all_cons gb1 all_nil) (by simp)).up (by decide) (by decide))
  obtain ⟨tp5, b2, t5, gb2, e5⟩ := bad_spec t4 hp2 hp7
  have ci := cut_len q0 none (some (-1))
  have ct := cut_len q0 (some 1) none
  have a2 := addD_T (xs := cutD q0 none (some (-1))) (ys := [b2]) (by simp; omega)
  have ew2 := with_spec (ds := tl Q) (by omega) 0 (.tuple (cutD q0 none (some (-1)) ++ [b2]))
  have gx2 := W 0 (tl Q) gr hlen ((gd_tuple (l := 37) (ds := cutD q0 none (some (-1)) ++ [b2]) (all_app (all_cut g0) (all_cons gb2 all_nil)) (by simp; omega)).up (by decide) (by decide))
  have a3 := addD_T (xs := [.int p]) (ys := cutD q0 (some 1) none) (by simp; omega)
  have ew3 := with_spec (ds := tl Q) (by omega) 0 (.tuple ([.int p] ++ cutD q0 (some 1) none))
  have gp : gd 150 2 (.int p) := (gd_int (by omega)).up (by decide) (by decide)
  have gx3r : gd 6000 4 (.tuple ([.int p] ++ cutD q0 (some 1) none)) := (gd_tuple (l := 37) (all_app (all_cons gp all_nil) (all_cut g0)) (by simp; omega)).up (by decide) (by decide)
  have hwl : ((tl Q).take 0 ++ [PyData.tuple ([.int p] ++ cutD q0 (some 1) none)] ++ (tl Q).drop (0 + 1)).length = l := by
    simp
    have := U.len
    omega
  have gx3 := all_with (k := 0) gr gx3r
  have a4 := addD_T (xs := qz) (ys := [.int 0]) (by simp; omega)
  have ew4 := with_spec (ds := (tl Q).take 0 ++ [.tuple ([.int p] ++ cutD q0 (some 1) none)] ++ (tl Q).drop (0 + 1)) (by omega) (l - 1) (.tuple (qz ++ [.int 0]))
  rw [show ((l - 1 : Nat) : Int) = (l : Int) - 1 by omega] at ew4
  have gi0 : gd 150 2 (.int 0) := (gd_int (by decide)).up (by decide) (by decide)
  have gx4 := W (l - 1) _ gx3 hwl ((gd_tuple (l := 37) (all_app gz (all_cons gi0 all_nil)) (by simp; omega)).up (by decide) (by decide))
  rw [show ((0 : Nat) : Int) = 0 from rfl] at ew2 ew3
  -- some
  have ms := mulS l (by omega)
  have mE := mulD_T (xs := [.tuple []]) (k := (l : Int)) (by omega) (by omega) (by rw [slv]; simp; omega)
  have mZ := mulD_T (xs := [.int 0]) (k := (l : Int)) (by omega) (by omega) (by rw [slv]; simp; omega)
  rw [show ((l : Int)).toNat = l by omega] at mE mZ
  have mZZ := mulD_T (xs := [.tuple (List.replicate l [PyData.int 0]).flatten]) (k := (l : Int)) (by omega) (by omega) (by rw [slv]; simp; omega)
  rw [show ((l : Int)).toNat = l by omega] at mZZ
  have aUU := addD_T (xs := tl Q) (ys := tl Q) (by omega)
  have k0 : keyD (.int 0) = some (.inl 0) := rfl
  have ge : gd 6000 4 (.tuple []) := by
    unfold gd
    decide +kernel
  have gzr : gd 6000 4 (.tuple (List.replicate l [PyData.int 0]).flatten) := (gd_tuple (l := 9) (all_rep (all_cons gi0 all_nil)) (by simp; omega)).up (by decide) (by decide)
  have wS : ∀ x ∈ [PyData.none, .bool true, .int 0, .str ("" : Str), .tuple [], .list [], .dict [], .dict [(.int 0, .tuple (tl Q))], .str (Txt.mul ("0" : Str) (l : Int)), .tuple (List.replicate l [PyData.tuple []]).flatten, .tuple (tl Q ++ tl Q), .tuple (List.replicate l [PyData.tuple (List.replicate l [PyData.int 0]).flatten]).flatten, .int 1000000000000000000000000000000], Gw x := by
    refine all_cons (gd_none.up (by decide) (by decide)) (all_cons ((gd_bool _).up (by decide) (by decide)) (all_cons (gi0.up (by decide) (by decide)) (all_cons ?_ (all_cons (ge.up (by decide) (by decide)) (all_cons ?_ (all_cons ?_ (all_cons ?_ (all_cons ?_ (all_cons ?_ (all_cons ?_ (all_cons ?_ (all_cons ?_ all_nil))))))))))))
    · unfold Gw gd
      decide +kernel
    · unfold Gw gd
      decide +kernel
    · unfold Gw gd
      decide +kernel
    · exact (gd_d1 (gi0.up (by decide) (by decide)) gT).up (by decide) (by decide)
    · exact (str0 _ (by omega)).up (by decide) (by decide)
    · exact (gd_tuple (l := 9) (all_rep (all_cons ge all_nil)) (by simp; omega)).up (by decide) (by decide)
    · exact (gd_tuple (l := 18) (all_app gr gr) (by simp; have := U.len; omega)).up (by decide) (by decide)
    · exact (gd_tuple (l := 9) (all_rep (all_cons gzr all_nil)) (by simp; omega)).up (by decide) (by decide)
    · exact (gd_big (b := 110) (by decide) (by decide) (by decide)).up (by decide) (by decide)
  obtain ⟨tp6, s1, t6, gs1, e6⟩ := pick_of wS t5 (by simp) (by simp)
  obtain ⟨tp7, s2, t7, gs2, e7⟩ := pick_of wS t6 (by simp) (by simp)
  have ap1 := app_of (xs := v3) (x := .tuple ((tl Q).take (l - 1) ++ [.tuple [b1]] ++ (tl Q).drop (l - 1 + 1))) (by omega)
  have ap2 := app_of (xs := v3 ++ [.tuple ((tl Q).take (l - 1) ++ [.tuple [b1]] ++ (tl Q).drop (l - 1 + 1))]) (x := .tuple ((tl Q).take 0 ++ [.tuple (cutD q0 none (some (-1)) ++ [b2])] ++ (tl Q).drop (0 + 1))) (by simp; omega)
  have hh := fun (x : D) => app_of (xs := v3 ++ [.tuple ((tl Q).take (l - 1) ++ [.tuple [b1]] ++ (tl Q).drop (l - 1 + 1))] ++ [.tuple ((tl Q).take 0 ++ [.tuple (cutD q0 none (some (-1)) ++ [b2])] ++ (tl Q).drop (0 + 1))]) (x := x) (by simp; omega)
  have gx1' : Gw (.tuple ((tl Q).take (l - 1) ++ [.tuple [b1]] ++ (tl Q).drop (l - 1 + 1))) := gx1.up (by decide) (by decide)
  have gx2' : Gw (.tuple ((tl Q).take 0 ++ [.tuple (cutD q0 none (some (-1)) ++ [b2])] ++ (tl Q).drop (0 + 1))) := gx2.up (by decide) (by decide)
  generalize (tl Q).take (l - 1) ++ [PyData.tuple [b1]] ++ (tl Q).drop (l - 1 + 1) = X1 at *
  generalize (tl Q).take 0 ++ [PyData.tuple (cutD q0 none (some (-1)) ++ [b2])] ++ (tl Q).drop (0 + 1) = X2 at *
  generalize (tl Q).take 0 ++ [PyData.tuple ([.int p] ++ cutD q0 (some 1) none)] ++ (tl Q).drop (0 + 1) = X3 at *
  have ap3 := hh (.tuple (X3.take (l - 1) ++ [.tuple (qz ++ [.int 0])] ++ X3.drop (l - 1 + 1)))
  have gx4' : Gw (.tuple (X3.take (l - 1) ++ [.tuple (qz ++ [.int 0])] ++ X3.drop (l - 1 + 1))) := gx4.up (by decide) (by decide)
  generalize X3.take (l - 1) ++ [PyData.tuple (qz ++ [.int 0])] ++ X3.drop (l - 1 + 1) = X4 at *
  have aF := addD_L (xs := v3 ++ [.tuple X1] ++ [.tuple X2] ++ [.tuple X4]) (ys := [s1, s2]) (by simp; omega)
  refine ⟨tp7, v3 ++ [.tuple X1] ++ [.tuple X2] ++ [.tuple X4] ++ [s1, s2], t7, all_app (all_app (all_app (all_app g3 (all_cons gx1' all_nil)) (all_cons gx2' all_nil)) (all_cons gx4' all_nil)) (all_cons gs1 (all_cons gs2 all_nil)), by simp; omega, ?_⟩
  have r8 := rngO1 (k := 8) (by decide) (by decide)
  have r4 := rngO1 (k := 4) (by decide) (by decide)
  have p30' := p30
  clear wS gx1 gx2 gx3 gx4 gx1' gx2' gx4' W gT gA gr hh g3 g2
  generalize v3 ++ [PyData.tuple X1] ++ [PyData.tuple X2] ++ [PyData.tuple X4] ++ [s1, s2] = V7 at *
  generalize v3 ++ [PyData.tuple X1] ++ [PyData.tuple X2] ++ [PyData.tuple X4] = V6 at *
  generalize v3 ++ [PyData.tuple X1] ++ [PyData.tuple X2] = V5 at *
  generalize v3 ++ [PyData.tuple X1] = V4 at *
  generalize rngD 0 8 = R8 at *
  generalize rngD 0 4 = R4 at *
  generalize up l (is A) = UA at *
  generalize h10 : cutD q0 none (some (-1)) ++ [b2] = Z1 at *
  generalize h11 : [PyData.int p] ++ cutD q0 (some 1) none = Z2 at *
  generalize h12 : qz ++ [PyData.int 0] = Z3 at *
  generalize h13 : cutD q0 none (some (-1)) = Z4 at *
  generalize h14 : cutD q0 (some 1) none = Z5 at *
  generalize (List.replicate l [PyData.tuple (List.replicate l [PyData.int 0]).flatten]).flatten = M1 at *
  generalize (List.replicate l [PyData.int 0]).flatten = M2 at *
  generalize (List.replicate l [PyData.tuple []]).flatten = M3 at *
  generalize Txt.mul ("0" : Str) (l : Int) = M4 at *
  generalize tl Q ++ tl Q = M5 at *
  generalize tl Q = TQ at *
  generalize (l : Int) = L at *
  unfold v__law_values
  apply run1 (he := rfl)
  · refine seq_go (by simp [la, e1]; try rfl) ?_
    refine seq_go (by simp [r8, el1]; try rfl) ?_
    refine seq_go (by simp [r4, el2]; try rfl) ?_
    refine seq_go (by simp [elast]; try rfl) ?_
    refine seq_go (by simp [ta, e4, ew1, ap1]; try rfl) ?_
    refine seq_go (by simp [ta, eq0, h13, e5, a2, ew2, ap2]; try rfl) ?_
    refine seq_go (by simp [ta, eq0, h14, a3, ew3, a4, ew4, ap3]; try rfl) ?_
    refine seq_go (by simp [la, ta, k0, ms, mE, aUU, mZ, mZZ, p30']; try rfl) ?_
    simp [la, e6, e7, aF]
    try rfl
  · rfl
end K18

set_option maxRecDepth 100000
set_option maxHeartbeats 8000000
namespace K18
open PySem Z
theorem gd_num {p : Int} : ∀ (rows : List D) (n i k : Nat), (∀ r ∈ rows, wt r ≤ 1000000) → numGo p rows n = some (i, k) → i < n + rows.length ∧ k ≤ 1000000 := fun rows n i k h e => numGo_lt (l := 0) rows n i k (fun r hr ds ed => by
  have := h r hr
  subst ed
  have h2 := wtAll_len ds
  simp only [wt] at this
  omega) e
theorem gd_err (p : Int) {l : Nat} (hl : l < 9) {x : D} (hx : Gw x) : gd 2000 3 (upE p l x) := by
  have gf : gd 2000 3 form := by
    unfold gd
    decide +kernel
  have gi : ∀ i : Int, i.natAbs < 10000000 → gd 100 0 (.int i) := fun i hi => (gd_int (by omega)).up (by decide) (by decide)
  have gs : gd 100 0 (.str ("row" : Str)) ∧ gd 100 0 (.str ("number" : Str)) := by
    unfold gd
    decide +kernel
  unfold upE
  split
  · rename_i rows
    by_cases c : rows.length = l
    · rw [if_pos c]
      cases e : errGo (fun i r => !rowK l i r) rows 0 with
      | some k =>
        have := errGo_lt rows 0 k e
        exact (gd_tuple (l := 2) (all_cons gs.1 (all_cons (gi _ (by omega)) all_nil)) (by simp)).up (by decide) (by decide)
      | none =>
        cases e2 : numGo p rows 0 with
        | some z =>
          obtain ⟨i, k⟩ := z
          have hw : ∀ r ∈ rows, wt r ≤ 1000000 := fun r hr => by
            have := (gd_mem (n := 7) hx r hr).2.1
            omega
          have := gd_num rows 0 i k hw e2
          exact (gd_tuple (l := 3) (all_cons gs.2 (all_cons (gi _ (by omega)) (all_cons (gi _ (by omega)) all_nil))) (by simp)).up (by decide) (by decide)
        | none => exact gd_none.up (by decide) (by decide)
    · rw [if_neg c]
      exact gf
  · exact gf
theorem value_step {p : Int} {l : Nat} (hl : l < 9) {x : D} (hx : Gw x) (a0 a3 k a6 a7 a8 : D) : ∃ b6 b7 b8, b__law_are_values_right_1 [a0, .int p, .int (l : Int), a3, k, x, a6, a7, a8] = .ok (.nx [a0, .int p, .int (l : Int), a3, k, x, b6, b7, b8]) := by
  have la := @lstA_of
  have e1 := law_err p l x
  have e2 := prog_err p l x
  have er := reprD_fit (hx.fit (by decide) (by decide))
  have ge := gd_err p hl hx
  have sm := law_same (d := .list [upE p l x, upE p l x]) ((gd_list (l := 2) (all_cons ge (all_cons ge all_nil)) (by simp)).fit (by decide) (by decide))
  clear ge
  generalize upE p l x = E at *
  generalize x.shown = s1 at er
  exact ⟨E, .str s1, .list [E, E], by simp [b__law_are_values_right_1, la, e1, e2, er, sm]⟩
theorem values_right {p : Int} (hp2 : 2 ≤ p) (hp7 : p ≤ 7) {l : Nat} (hl : Ln l) {A : List Int} (hA : A.length = tot l) (bA : bel p A) {tp : D} (h : T tp) : ∃ tp', T tp' ∧ v__law_are_values_right [tp, .int p, .int (l : Int), up l (is A)] = .ok (.bool true, [tp', .int p, .int (l : Int), up l (is A)]) := by
  have U := up_of hl hp7 hA bA
  obtain ⟨tp1, vs, t1, gv, hv, e1⟩ := values_spec hp2 hp7 hl U h
  have eu : PyData.tuple (tl (Rw l (is A))) = up l (is A) := rfl
  rw [eu] at e1
  obtain ⟨ρ', el, ⟨c4, c5, c6, c7, c8, eρ⟩⟩ := loop_inv0 (b := tupB 2 (consB (nameB 4) (consB (nameB 5) nilB))) (f := b__law_are_values_right_1) (fun i ρ => ∃ a4 a5 a6 a7 a8, ρ = [tp1, .int p, .int (l : Int), up l (is A), a4, a5, a6, a7, a8]) (enumD vs) [tp1, .int p, .int (l : Int), up l (is A), .none, .none, .none, .none, .none] ⟨_, _, _, _, _, rfl⟩ fun i x ρ hx ⟨a4, a5, a6, a7, a8, eρ⟩ => by
    subst eρ
    obtain ⟨y, hy, rfl⟩ : ∃ y ∈ vs, x = .tuple [.int (i : Int), y] := by
      have hi : i < vs.length := by
        have := (List.getElem?_eq_some_iff.mp hx).1
        simpa [enumD] using this
      refine ⟨vs[i], List.getElem_mem _, ?_⟩
      obtain ⟨h1, h2⟩ := List.getElem?_eq_some_iff.mp hx
      rw [← h2]
      simp [enumD]
    obtain ⟨b6, b7, b8, e⟩ := value_step (p := p) (l := l) hl.b (gv y hy) tp1 (up l (is A)) (.int (i : Int)) a6 a7 a8
    exact ⟨_, _, rfl, .inl e, _, _, _, _, _, rfl⟩
  subst eρ
  refine ⟨tp1, t1, ?_⟩
  clear eu U
  generalize up l (is A) = UA at *
  generalize hE : enumD vs = E at *
  unfold v__law_are_values_right
  apply run1 (he := rfl)
  · refine seq_go (by simp [e1, hE, el]; try rfl) ?_
    simp
    try rfl
  · rfl
theorem turn {tp : D} (h : T tp) (S a2 a3 a4 a5 a6 a7 : D) : ∃ tp' b3 b4 b5 b6 b7, T tp' ∧ b_law_1 [S, tp, a2, a3, a4, a5, a6, a7] = .ok (.nx [S, tp', a2, b3, b4, b5, b6, b7]) := by
  have la := @lstA_of
  obtain ⟨tp1, x, t1, hx, e1⟩ := pick_spec h (xs := [PyData.int 2, .int 3, .int 5, .int 7]) (by simp) (by simp)
  obtain ⟨p, rfl, hp2, hp7⟩ : ∃ p : Int, x = .int p ∧ 2 ≤ p ∧ p ≤ 7 := by
    simp only [List.mem_cons, List.not_mem_nil, or_false] at hx
    rcases hx with rfl | rfl | rfl | rfl
    · exact ⟨_, rfl, by omega, by omega⟩
    · exact ⟨_, rfl, by omega, by omega⟩
    · exact ⟨_, rfl, by omega, by omega⟩
    · exact ⟨_, rfl, by omega, by omega⟩
  obtain ⟨tp2, y, t2, hy, e2⟩ := pick_spec t1 (xs := [PyData.int 1, .int 2, .int 2, .int 3, .int 3, .int 4, .int 5, .int 6, .int 7, .int 8, .int 8]) (by simp) (by simp)
  obtain ⟨l, rfl, hl⟩ : ∃ l : Nat, y = .int (l : Int) ∧ Ln l := by
    simp only [List.mem_cons, List.not_mem_nil, or_false] at hy
    rcases hy with rfl | rfl | rfl | rfl | rfl | rfl | rfl | rfl | rfl | rfl | rfl
    · exact ⟨1, rfl, by decide, by decide⟩
    · exact ⟨2, rfl, by decide, by decide⟩
    · exact ⟨2, rfl, by decide, by decide⟩
    · exact ⟨3, rfl, by decide, by decide⟩
    · exact ⟨3, rfl, by decide, by decide⟩
    · exact ⟨4, rfl, by decide, by decide⟩
    · exact ⟨5, rfl, by decide, by decide⟩
    · exact ⟨6, rfl, by decide, by decide⟩
    · exact ⟨7, rfl, by decide, by decide⟩
    · exact ⟨8, rfl, by decide, by decide⟩
    · exact ⟨8, rfl, by decide, by decide⟩
  obtain ⟨tp3, A, t3, hA, bA, e3⟩ := law_upper t2 hp2 hp7 hl
  obtain ⟨tp4, B, t4, hB, bB, e4⟩ := law_upper t3 hp2 hp7 hl
  have gA := gu hl hp7 hA bA
  have gB := gu hl hp7 hB bB
  have er := reprD_fit ((gd_list (l := 2) (all_cons gA (all_cons gB all_nil)) (by simp)).fit (by decide) (by decide))
  generalize PyData.shown (.list [up l (is A), up l (is B)]) = SS at er
  have iA := gd_is hp7 bA
  have iB := gd_is hp7 bB
  obtain ⟨tp5, t5, e5⟩ := items_right t4 hl (R := is A) (by simpa using hA) iA
  obtain ⟨tp6, t6, e6⟩ := sums_right t5 hp2 hp7 hl hA hB bA bB
  obtain ⟨tp7, t7, e7⟩ := places_right t6 hp2 hp7 hl hA bA
  obtain ⟨tp8, t8, e8⟩ := places_right t7 hp2 hp7 hl hB bB
  obtain ⟨tp9, t9, e9⟩ := values_right hp2 hp7 hl hB bB t8
  obtain ⟨tpa, ta, ea⟩ := items_right t9 hl (R := is B) (by simpa using hB) iB
  refine ⟨tpa, .int p, .int (l : Int), up l (is A), up l (is B), .str SS, ta, ?_⟩
  clear gA gB
  generalize up l (is A) = UA at *
  generalize up l (is B) = UB at *
  generalize (l : Int) = L at *
  unfold b_law_1
  refine seq_go (by simp [la, e1, e2]; try rfl) ?_
  refine seq_go (by simp [e3, e4]; try rfl) ?_
  refine seq_go (by simp [la, er]; try rfl) ?_
  refine seq_go (by simp [e5, e6]; try rfl) ?_
  refine seq_go (by simp [e7, e8]; try rfl) ?_
  refine seq_go (by simp [e9, ea]; try rfl) ?_
  simp [la, er]
theorem law_true (ns : List Int) : ∃ ds, v_law [.list (ns.map PyData.int)] = .ok (.bool true, ds) ∧ ds.length = 1 := by
  obtain ⟨tp, ht, eb⟩ := bag_spec (ns := ns)
  generalize hS : PyData.list (ns.map PyData.int) = S at *
  refine ⟨[S], ?_, rfl⟩
  obtain ⟨ρ', el, ⟨tp1, a2, a3, a4, a5, a6, a7, eρ, t1⟩⟩ := loop_inv0 (b := nameB 2) (f := b_law_1) (fun i ρ => ∃ tp a2 a3 a4 a5 a6 a7, ρ = [S, tp, a2, a3, a4, a5, a6, a7] ∧ T tp) (rngD 0 3) [S, tp, .none, .none, .none, .none, .none, .none] ⟨tp, _, _, _, _, _, _, rfl, ht⟩ fun i x ρ hx ⟨tp, a2, a3, a4, a5, a6, a7, eρ, t⟩ => by
    subst eρ
    obtain ⟨tp', b3, b4, b5, b6, b7, t', e⟩ := turn t S x a3 a4 a5 a6 a7
    exact ⟨_, _, rfl, .inl e, tp', x, b3, b4, b5, b6, b7, rfl, t'⟩
  subst eρ
  have er := rngO1 (k := 3) (by decide) (by decide)
  generalize rngD 0 3 = R at *
  unfold v_law
  apply run1 (he := rfl)
  · refine seq_go (by simp [eb]; try rfl) ?_
    refine seq_go (by simp [er, el]; try rfl) ?_
    simp
    try rfl
  · rfl
end K18

set_option maxRecDepth 100000 in
set_option maxHeartbeats 8000000 in
theorem PySem.Challenge.cw_eachsaysonce_k18_whole_uppers_holds : PySem.Challenge.rw_eachsaysonce_k18_whole_uppers.Holds :=
  K18.E.holds fun ns _ => K18.law_true ns
